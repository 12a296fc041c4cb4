-- Written by a program of this session's own (wip/turnprint.py over the kit's print); Lean checks it.
import Derived.Test.YtidfhfaekdahpaaQFnExactLoseDiskx0
import Derived.Test.YtidfhfaekdahpaaQFnExactLoseDiskx3
namespace Go.Proofs.Ytidfhfaekdahpaa.QFnExactLoseDisk
open Go.RowKit Go.Proofs.YtidfhfaekdahpaaW.PrintWords Go.Proofs.YtidfhfaekdahpaaW.PrintLast Go.Proofs.YtidfhfaekdahpaaW.PrintMore
attribute [local go_sem] max2_int min2_int max_two min_two max_three min_three max_four min_four   -- for this text's walks alone
attribute [local go_sem] Go.Proofs.YtidfhfaekdahpaaQWords.run_lss_str
attribute [local go_sem] Go.Proofs.YtidfhfaekdahpaaQWords.run_geq_str
attribute [local go_sem] Go.Proofs.YtidfhfaekdahpaaQWords.run_leq_str
attribute [local go_sem] Go.Proofs.YtidfhfaekdahpaaQWords.run_gtr_str
set_option linter.unusedVariables false
set_option linter.unusedSimpArgs false

/-! ### impl_File: function 119 (given by the session) -/
def impl_File.f (l0 : List S45) : Option (List S45) := if l0.length ≤ 1099511627776 then some l0 else none
set_option maxHeartbeats 2000000 in
set_option maxRecDepth 100000 in
theorem impl_File.calls (A0 : Option Addr) (c0 : Nat) (l0 : List S45) (r : List S45) (w : World) (hr0 : Kd.C k45 w A0 l0.length l0) (hc0 : l0.length ≤ c0) (h : impl_File.f l0 = some r) :
    Calls Try.prog 119 #[.slice A0 l0.length c0] w fun e w' => ∃ v0_ : Value, e = .returned (v0_) ∧ Kd.R k45 45 w' w.heap.size (fun _ => True) v0_ r ∧ Below w.heap.size w w' := by
  unfold impl_File.f at h
  by_cases hs : l0.length ≤ 1099511627776
  case neg => rw [if_neg hs] at h; cases h
  rw [if_pos hs] at h
  obtain rfl := Option.some.inj h
  clear h
  have HR0 := Aside0.mk hr0
  clear hr0
  have HB := Aside0.mk (Below.refl w.heap.size w)
  cases A0 with
  | none =>
    have h0 : l0 = [] := by
      rcases Nat.eq_zero_or_pos l0.length with h0 | h0
      · exact List.eq_nil_of_length_eq_zero h0
      · obtain ⟨ad, h1, _⟩ := HR0.out.2.2 h0
        cases h1
    subst h0
    have hq := fun W => Lib.run_eql_slice_nil (P := Try.prog) W 28 45 none 0 c0 0 0 Try.underlying28
    go_enter Try.func119, Try.ntmps119
    go_wp2
    go_ret
    exact ⟨_, rfl, Kd.R_nil _ _ _ _ _, HB.out⟩
  | some ad =>
    have hq := fun W => Lib.run_eql_slice_nil (P := Try.prog) W 28 45 (some ad) l0.length c0 0 0 Try.underlying28
    go_enter Try.func119, Try.ntmps119
    go_wp2_with (first | ((with_reducible refine gate_dst (N := 5) rfl ?_); refine Kd.R_lit k45 _ 45 ?hg (N := 5) ?hd (xs := ([] : List S45)) (inner := []) (ok := fun _ => True) (okp := fun _ => True) ?hr ?hp (fun _ hk => hk) trivial (Below.refl _ _) (Nat.le_refl _) (by simp) ?_; (case hd => rfl); (case hg => rfl); (case hr => first | (go_simp; done) | (go_simp; rfl)); (case hp => exact (Reps.none _ _)); intro v5 w2 ho3 hb hg_ hnew_; clear hg_ hnew_; have n1_ := Aside0.mk (below_step (by repeat (first | (with_reducible first | exact HB.out | apply below_alloc | apply pw_below_drewN | apply below_drew1) | exact HB.out)) hb); clear HB; have HO := Aside0.mk ho3; have HB := n1_; clear n1_; clear hb ho3) | ((with_reducible refine gate_builtin (b := .append) (xs := #[.tmp 5, .tmp 6]) rfl ?_); at_builtin; refine Kd.R_append_rows k45 (w0 := w) w.heap.size rfl (.tmp 5) (.tmp 6) 28 45 _ _ rfl Try.underlying28 info45 rfl (by decide) (by omega) v5 [] l0 _ _ _ (fun _ => True) (fun _ => False) rfl rfl ?aO ?aR (fun _ _ h => h) (fun _ h => h.elim) (fun _ _ => trivial) HB.out (below_size HB.out) (by simp only [List.length_nil]; omega) ?_; (case aO => exact HO.out); (case aR => exact Kd.C_below HR0.out HB.out); intro v7 w6 ho hb hg hat; simp only [List.nil_append] at ho; have HO2 := Aside0.mk ho; have HB2 := Aside0.mk hb; clear ho hat hb hg))
    go_ret
    exact ⟨_, rfl, HO2.out, HB2.out⟩

/-! ### impl_copyDisk: function 82 -/
def impl_copyDisk.f (l0_0 : List (S45)) : Option ((List (S45))) := (impl_File.f l0_0).bind fun t141 => (some t141)
set_option maxHeartbeats 8000000 in
set_option maxRecDepth 100000 in
theorem impl_copyDisk.calls (A0_0 : Option Addr) (c0_0 : Nat) (l0_0 : List (S45)) (r : List (S45)) (w : World) (hr0_0 : Kd.C k45 w A0_0 l0_0.length l0_0) (hc0_0 : l0_0.length ≤ c0_0) (h : impl_copyDisk.f l0_0 = some r) :
    Calls Try.prog 82 #[.agg #[.slice A0_0 l0_0.length c0_0]] w fun e w' => ∃ v0_ : Value, e = .returned (.agg #[v0_]) ∧ Kd.R k45 45 w' w.heap.size (fun _ => True) v0_ r ∧ Below w.heap.size w w' := by
  have hu30 := Try.underlying30
  have HR0_0 := aM hr0_0
  have HC0_0 := aM hc0_0
  clear hr0_0 hc0_0
  have HB := aM (Below.refl w.heap.size w)
  have H : ((impl_File.f l0_0).bind fun t141 => (some t141)) = some r := h
  clear h
  replace H := Option.bind_eq_some_iff.mp H
  obtain ⟨t141, A20, H⟩ := H
  replace H : (some t141) = some r := H
  have A2 := aM A20
  clear A20
  obtain rfl := Option.some.inj H
  go_enter Try.func82, Try.ntmps82
  go_wp2_with (first | ((with_reducible refine gate_dst (N := 1) rfl ?_); refine box_event ?hg (N := 1) ?hd (cs := #[.slice A0_0 l0_0.length c0_0]) (t := 30) ?hr ?_; (case hd => rfl); (case hg => rfl); (case hr => first | (go_simp; done) | (go_simp; rfl)); intro gb139 hg w3 hbox hb; have n0_ := aM (below_step (by repeat (first | (with_reducible first | exact HB.out | apply lA | apply lN | apply lD) | exact HB.out)) hb); have n1_ := aM (hbox); have n2_ := aM ((by rw [hg]; exact (below_size (by repeat (first | (with_reducible first | exact HB.out | apply lA | apply lN | apply lD) | exact HB.out))) : w.heap.size ≤ gb139)); have n3_ := aM ((by rw [hg]; exact (below_size (by repeat (first | (with_reducible first | exact HB.out | apply lA | apply lN | apply lD) | exact HB.out))) : w.heap.size ≤ gb139)); clear HB; have HB := n0_; have BK139 := n1_; have GW139 := n2_; have GE139 := n3_; clear n0_ n1_ n2_ n3_; clear hb hbox hg) | ((with_reducible refine gate_dst (N := 2) rfl ?_); refine box_event ?hg (N := 2) ?hd (cs := #[.slice none 0 0]) (t := 30) ?hr ?_; (case hd => rfl); (case hg => rfl); (case hr => first | (go_simp; done) | (go_simp; rfl)); intro gb140 hg w4 hbox hb; have n0_ := aM (blk_below (g := gb139) (o := .cells #[.slice A0_0 l0_0.length c0_0] 30 (0, 0)) (by (with_reducible repeat first | apply bN | apply bD | apply bA); exact BK139.out) hb); have n1_ := aM (below_step (by repeat (first | (with_reducible first | exact HB.out | apply lA | apply lN | apply lD | refine lS ?_ GE139.out) | exact HB.out)) hb); have n2_ := aM (hbox); have n3_ := aM ((by rw [hg]; exact (below_size (by repeat (first | (with_reducible first | exact HB.out | apply lA | apply lN | apply lD | refine lS ?_ GE139.out) | exact HB.out))) : w.heap.size ≤ gb140)); have n4_ := aM ((by rw [hg]; exact (below_size (by repeat (first | (with_reducible first | exact HB.out | apply lA | apply lN | apply lD | refine lS ?_ GE139.out) | exact HB.out))) : w.heap.size ≤ gb140)); have n5_ := aM ((by rw [hg]; exact Nat.ne_of_lt (blk_lt (g := gb139) (o := .cells #[.slice A0_0 l0_0.length c0_0] 30 (0, 0)) (by (with_reducible repeat first | apply bN | apply bD | apply bA); exact BK139.out)) : gb139 ≠ gb140)); have n6_ := aM ((by rw [hg]; exact Nat.ne_of_gt (blk_lt (g := gb139) (o := .cells #[.slice A0_0 l0_0.length c0_0] 30 (0, 0)) (by (with_reducible repeat first | apply bN | apply bD | apply bA); exact BK139.out)) : gb140 ≠ gb139)); clear BK139; clear HB; have BK139 := n0_; have HB := n1_; have BK140 := n2_; have GW140 := n3_; have GE140 := n4_; have NB139_140 := n5_; have NB140_139 := n6_; clear n0_ n1_ n2_ n3_ n4_ n5_ n6_; clear hb hbox hg; have hnb5 := NB139_140.out; have hnc5 := NB140_139.out; have hcz6_0 : w4.cell? ⟨gb139, 0, none⟩ = some (.slice A0_0 l0_0.length c0_0) := (blk_cell BK139.out 0).trans rfl; have hfz6_0 := blk_frozen BK139.out 0) | ((with_reducible refine gate_callee (f := 119) rfl ?_); refine goesL_ (some 5) rfl rfl Try.func119 (by kernel_rfl) rfl #[.slice A0_0 l0_0.length c0_0] rfl (by (try simp only [mT, mC, mN]); first | done | rfl | (simp only [lDr, lTk]; rfl)) ?_; (with_reducible refine (impl_File.calls _ _ l0_0 t141 _ ?side1 ?side2 A2.out).mono ?_); (case side1 => repeat (first | exact (Kd.C_below HR0_0.out HB.out) | (with_reducible refine cA ?_ _) | (with_reducible refine cN ?_ _) | (with_reducible refine cD ?_))); (case side2 => exact HC0_0.out); rintro e w7 ⟨v142, rfl, ho0, hb⟩; refine ⟨_, rfl, ?_⟩; have n0_ := aM (Kd.R_lower ho0 (below_size (by repeat (first | (with_reducible first | exact HB.out | apply lA | apply lN | apply lD | refine lS ?_ GE139.out | refine lS ?_ GE140.out) | exact HB.out)))); have n1_ := aM (blk_below (g := gb139) (o := .cells #[.slice A0_0 l0_0.length c0_0] 30 (0, 0)) (by (with_reducible repeat first | apply bN | apply bD | apply bA); exact BK139.out) hb); have n2_ := aM (blk_below (g := gb140) (o := .cells #[.slice none 0 0] 30 (0, 0)) (by (with_reducible repeat first | apply bN | apply bD | apply bA); exact BK140.out) hb); have n3_ := aM (below_step (by repeat (first | (with_reducible first | exact HB.out | apply lA | apply lN | apply lD | refine lS ?_ GE139.out | refine lS ?_ GE140.out) | exact HB.out)) hb); clear BK139; clear BK140; clear HB; have HO143 := n0_; have BK139 := n1_; have BK140 := n2_; have HB := n3_; clear n0_ n1_ n2_ n3_; (try clear hb); (try clear hb2); (try clear hk); (try clear hi); (try clear ho0); obtain ⟨Ao8, co8, eo8⟩ := Kd.R_slice HO143.out; subst eo8; have hcz9_0 : w7.cell? ⟨gb140, 0, none⟩ = some (.slice none 0 0) := (blk_cell BK140.out 0).trans rfl; have hfz9_0 := blk_frozen BK140.out 0))
  refine bodyPost_ret (results_cell_row rfl _ _ gb140 30 #[.slice Ao8 t141.length co8] (0, 0) _ rfl (by (with_reducible repeat first | apply bN | apply bD | apply bA); refine blk_put (cs := #[.slice none 0 0]) ?_ 0 _ rfl; (with_reducible repeat first | apply bN | apply bD | apply bA); exact BK140.out) Try.underlying30 rfl (by kernel_rfl)) rfl ?_
  exact ⟨_, by first | rfl | (simp [errW_none, errW_some] <;> rfl) | (simp [*, errW_none, errW_some] <;> rfl), by (with_reducible repeat first | apply rA | apply rN | apply rD); exact Kd.R_mono (Kd.R_far (p := ⟨gb140, 0, none⟩) (Kd.R_types HO143.out BK140.out (by decide)) (fun _ hk => hk.2) (.slice Ao8 t141.length co8)) (fun _ hk => trivial), by repeat (first | (with_reducible first | exact HB.out | apply lA | apply lN | apply lD | refine lS ?_ GE139.out | refine lS ?_ GE140.out) | exact HB.out)⟩

/-! ### impl_Disk_lose: function 83 (given by the session) -/
/-- what is left of a text -/
def impl_Disk_lose.lz (l1 : List Int) (i : Nat) (x : S45) : Int :=
  if (if i < l1.length then (if (0 : Int) < (if (x.f1.size : Int) < l1.getD i 0 then (x.f1.size : Int) else l1.getD i 0) then (if (x.f1.size : Int) < l1.getD i 0 then (x.f1.size : Int) else l1.getD i 0) else 0) else 0) < x.f2 then x.f2 else (if i < l1.length then (if (0 : Int) < (if (x.f1.size : Int) < l1.getD i 0 then (x.f1.size : Int) else l1.getD i 0) then (if (x.f1.size : Int) < l1.getD i 0 then (x.f1.size : Int) else l1.getD i 0) else 0) else 0)
def impl_Disk_lose.lx (l1 : List Int) (i : Nat) (x : S45) : S45 := ⟨x.f0, x.f1.extract 0 (impl_Disk_lose.lz l1 i x).toNat, impl_Disk_lose.lz l1 i x⟩
def impl_Disk_lose.lostTo (l1 : List Int) (l : List S45) : Nat → List S45
  | 0 => l
  | n + 1 => (impl_Disk_lose.lostTo l1 l n).set n (impl_Disk_lose.lx l1 n (l.getD n z45))
theorem impl_Disk_lose.lostTo_length (l1 : List Int) (l : List S45) (n : Nat) : (impl_Disk_lose.lostTo l1 l n).length = l.length := by
  induction n with
  | zero => rfl
  | succ n ih => rw [impl_Disk_lose.lostTo, List.length_set, ih]
theorem impl_Disk_lose.lostTo_ge (l1 : List Int) (l : List S45) (n j : Nat) (h : n ≤ j) : (impl_Disk_lose.lostTo l1 l n).getD j z45 = l.getD j z45 := by
  induction n with
  | zero => rfl
  | succ n ih =>
    rw [impl_Disk_lose.lostTo, List.getD_eq_getElem?_getD, List.getElem?_set_ne (by omega), ← List.getD_eq_getElem?_getD, ih (by omega)]
theorem impl_Disk_lose.lz_range (l1 : List Int) (i : Nat) (x : S45) (h0 : 0 ≤ x.f2) (h1 : x.f2 ≤ x.f1.size) : 0 ≤ impl_Disk_lose.lz l1 i x ∧ impl_Disk_lose.lz l1 i x ≤ x.f1.size := by
  unfold impl_Disk_lose.lz
  repeat' split
  all_goals omega
theorem impl_Disk_lose.gtrans {a b c : World} {row : Option Nat} (h1 : a.grownBy b row) (h2 : b.grownBy c row) : a.grownBy c row := ⟨h2.os.trans h1.os, h2.tape.trans h1.tape, h2.output.trans h1.output, Nat.le_trans h1.size h2.size, fun k hk hr => (h2.block k (by have := h1.size; omega) hr).trans (h1.block k hk hr)⟩
theorem impl_Disk_lose.lose_step (l1 : List Int) (l : List S45) (i g c gb base : Nat) (w wr : World) (hi : i < l.length) (n0 t : ByteArray) (kk : Int) (hx : (⟨n0, t, kk⟩ : S45) = l.getD i z45) (HR : Kd.R k45 45 wr base (fun _ => True) (.slice (some ⟨g, 0, none⟩) l.length c) (impl_Disk_lose.lostTo l1 l i))
    (BK : wr.heap[gb]? = some (.cells #[.slice (some ⟨g, 0, none⟩) l.length c] 30 (0, 0))) (HB : Below base w wr) (n : Int) (hn : n = impl_Disk_lose.lz l1 i ⟨n0, t, kk⟩) (t' : ByteArray) (ht : t' = t.extract 0 n.toNat) :
    Kd.R k45 45 ((wr.setCell ⟨g, i * 3 + 1, none⟩ (.string t')).setCell ⟨g, i * 3 + 2, none⟩ (.int .i64 n)) base (fun _ => True) (.slice (some ⟨g, 0, none⟩) l.length c) (impl_Disk_lose.lostTo l1 l (i + 1)) ∧
    ((wr.setCell ⟨g, i * 3 + 1, none⟩ (.string t')).setCell ⟨g, i * 3 + 2, none⟩ (.int .i64 n)).heap[gb]? = some (.cells #[.slice (some ⟨g, 0, none⟩) l.length c] 30 (0, 0)) ∧ wr.grownBy ((wr.setCell ⟨g, i * 3 + 1, none⟩ (.string t')).setCell ⟨g, i * 3 + 2, none⟩ (.int .i64 n)) (some g) ∧
    Below base w ((wr.setCell ⟨g, i * 3 + 1, none⟩ (.string t')).setCell ⟨g, i * 3 + 2, none⟩ (.int .i64 n)) := by
  have hlen := impl_Disk_lose.lostTo_length l1 l i
  obtain ⟨cs, hcl, hM, hcc, hfr⟩ := Kd.R_elem HR z45 (i : Int) (by omega) (by omega)
  rw [Int.toNat_natCast, impl_Disk_lose.lostTo_ge _ _ _ _ (Nat.le_refl _), ← hx] at hM
  obtain rfl := k45_openM hM
  have hs := Kd.R_seg HR (i : Int) (by omega) (by omega) (c := [.string n0, .string t, .int .i64 kk]) (seg := [.string t', .int .i64 n]) (j := 1) hcl hcc (Nat.le_refl 3) (x' := impl_Disk_lose.lx l1 i ⟨n0, t, kk⟩) (okp := fun _ => False)
    (by
      have h1 := k45_mkM wr base (fun _ => False) (impl_Disk_lose.lx l1 i ⟨n0, t, kk⟩)
      have e : (⟨n0, t', n⟩ : S45) = impl_Disk_lose.lx l1 i ⟨n0, t, kk⟩ := by rw [impl_Disk_lose.lx, ← hn, ht]
      rw [← e] at h1 ⊢
      exact h1) (fun _ h => h.elim)
  have hbase : base ≤ g := Kd.R_base HR g (by simp [Value.ownBlock])
  have hne : some gb ≠ (Value.slice (some ⟨g, 0, none⟩) l.length c).ownBlock := Kd.R_ne HR BK (by decide)
  obtain ⟨h1, h2⟩ := hs
  rw [Int.toNat_natCast] at h1 h2
  refine ⟨?_, ?_, h2, ?_⟩
  · have e : impl_Disk_lose.lostTo l1 l (i + 1) = (impl_Disk_lose.lostTo l1 l i).set i (impl_Disk_lose.lx l1 i ⟨n0, t, kk⟩) := by rw [impl_Disk_lose.lostTo, hx]
    rw [e]
    exact h1
  · refine Eq.trans ?_ BK
    have hgb : gb ≠ g := fun he => hne (by rw [he]; simp [Value.ownBlock])
    exact (Below.heap_setCell _ _ _ _ hgb).trans (Below.heap_setCell _ _ _ _ hgb)
  · exact (HB.setCell hbase _).setCell hbase _
set_option maxHeartbeats 4000000 in
set_option maxRecDepth 100000 in
theorem impl_Disk_lose.calls (gb : Nat) (v : Value) (l : List S45) (A1 : Option Addr) (c1 : Nat) (l1 : List Int) (base : Nat) (w : World) (hR : Kd.R k45 45 w base (fun _ => True) v l) (hb : w.heap[gb]? = some (.cells #[v] 30 (0, 0))) (hr1 : ∀ w', Below base w w' → Kd.C (Kd.int .i64) w' A1 l1.length l1) (hc1 : l1.length ≤ c1) (hk : ∀ x ∈ l, 0 ≤ x.f2 ∧ x.f2 ≤ (x.f1.size : Int)) (hl : l.length ≤ 1099511627776) :
    Calls Try.prog 83 #[.pointer (some ⟨gb, 0, none⟩), .slice A1 l1.length c1] w fun e w' => e = .returned (.tuple #[]) ∧ w'.heap[gb]? = some (.cells #[v] 30 (0, 0)) ∧ Kd.R k45 45 w' base (fun _ => True) v (impl_Disk_lose.lostTo l1 l l.length) ∧ w.grownBy w' v.ownBlock ∧ Below base w w' := by
  have HB := Aside0.mk (Below.refl base w)
  obtain ⟨A, c, rfl⟩ := Kd.R_slice hR
  have HR := Aside0.mk hR
  have HR1 := Aside0.mk hr1
  have HC1 := Aside0.mk hc1
  have HK := Aside0.mk hk
  clear hR hr1 hc1 hk
  have BK := Aside0.mk hb
  have hcz0 : w.cell? ⟨gb, 0, none⟩ = some (.slice A l.length c) := (blk_cell hb 0).trans rfl
  clear hb
  go_enter Try.func83, Try.ntmps83
  go_wp2
  go_loopw [12] (fun v12 wr => ∃ i : Nat, i ≤ l.length ∧ v12 = .int .i64 (i : Int) ∧ Aside0 (Kd.R k45 45 wr base (fun _ => True) (.slice A l.length c) (impl_Disk_lose.lostTo l1 l i)) ∧ Aside0 (wr.heap[gb]? = some (.cells #[.slice A l.length c] 30 (0, 0))) ∧ Aside0 (w.grownBy wr (Value.slice A l.length c).ownBlock) ∧ Aside0 (Below base w wr)) (fun v12 _ => l.length - (intOf v12).toNat)
  case atStart => exact ⟨0, Nat.zero_le _, rfl, HR, BK, ⟨World.grownBy.refl _ _⟩, HB⟩
  case round =>
    clear HR BK HB hcz0
    obtain ⟨i, hi, rfl, HR, BK, HG, HB⟩ := hrel
    by_cases hlt : i < l.length
    · have hcz0 : wr.cell? ⟨gb, 0, none⟩ = some (.slice A l.length c) := (blk_cell BK.out 0).trans rfl
      obtain ⟨g, rfl⟩ : ∃ g, A = some ⟨g, 0, none⟩ := by
        obtain ⟨n', _, hC⟩ := Kd.R_reads' HR.out
        obtain ⟨ad, h1, _⟩ := hC.2.2 (by omega)
        subst h1
        obtain ⟨g, rfl⟩ := Kd.R_head HR.out
        exact ⟨g, rfl⟩
      obtain ⟨cs, hcl, hM, hcc, hfr⟩ := Kd.R_elem HR.out z45 (i : Int) (by omega) (by omega)
      rw [Int.toNat_natCast, impl_Disk_lose.lostTo_ge _ _ _ _ (Nat.le_refl _)] at hM
      obtain rfl := k45_openM hM
      obtain ⟨⟨n0, t, kk⟩, hx⟩ : ∃ x, x = l.getD i z45 := ⟨_, rfl⟩
      have hkx := HK.out ⟨n0, t, kk⟩ (by rw [hx, List.getD_eq_getElem?_getD, List.getElem?_eq_getElem hlt]; exact List.getElem_mem _)
      rw [← hx] at hM hcc hcl
      simp only [Int.toNat_natCast] at hcc hfr
      have hc0 : wr.cell? ⟨g, i * 3, none⟩ = _ := hcc 0 _ rfl
      have hc1 : wr.cell? ⟨g, i * 3 + 1, none⟩ = _ := hcc 1 _ rfl
      have hc2 : wr.cell? ⟨g, i * 3 + 2, none⟩ = _ := hcc 2 _ rfl
      have hf1 : wr.frozen? ⟨g, i * 3 + 1, none⟩ = false := hfr 1
      have hf2 : wr.frozen? ⟨g, i * 3 + 2, none⟩ = false := hfr 2
      clear hcc hfr
      have HX := Aside0.mk hx
      clear hx hM hcl
      obtain ⟨hk0, hk1⟩ := hkx
      dsimp only at hk0 hk1 hc0 hc1 hc2
      have hts : (0 : Int) ≤ (t.size : Int) := by omega
      by_cases hin : i < l1.length
      · have HZ : Aside0 (impl_Disk_lose.lz l1 i ⟨n0, t, kk⟩ = if (if 0 < (if (t.size : Int) < rd l1 (i : Int) then (t.size : Int) else rd l1 (i : Int)) then (if (t.size : Int) < rd l1 (i : Int) then (t.size : Int) else rd l1 (i : Int)) else 0) < kk then kk else (if 0 < (if (t.size : Int) < rd l1 (i : Int) then (t.size : Int) else rd l1 (i : Int)) then (if (t.size : Int) < rd l1 (i : Int) then (t.size : Int) else rd l1 (i : Int)) else 0)) := ⟨by simp [impl_Disk_lose.lz, hin, rd]⟩
        obtain ⟨ad, rfl, hq⟩ := Kd.at_int (HR1.out wr HB.out) (i : Int) (by omega) (by omega)
        have hl1 : (l1.length : Int) ≤ 9223372036854775807 := by have := (HR1.out wr HB.out).2.1; omega
        simp only [Int.toNat_natCast] at hq
        generalize rd l1 (i : Int) = q at hq HZ
        go_wp2
        go_quiet (fail)
        have hm : 0 ≤ (if 0 < (if (t.size : Int) < q then (t.size : Int) else q) then (if (t.size : Int) < q then (t.size : Int) else q) else 0) ∧ (if 0 < (if (t.size : Int) < q then (t.size : Int) else q) then (if (t.size : Int) < q then (t.size : Int) else q) else 0) ≤ (t.size : Int) := by
          repeat' split
          all_goals omega
        generalize (if 0 < (if (t.size : Int) < q then (t.size : Int) else q) then (if (t.size : Int) < q then (t.size : Int) else q) else 0) = m at hm HZ ⊢
        obtain ⟨hm0, hm1⟩ := hm
        have BK2 : (wr.drewN nq).heap[gb]? = some (.cells #[.slice (some ⟨g, 0, none⟩) l.length c] 30 (0, 0)) := blk_drewN BK.out nq
        have HR2 := Kd.R_drewN HR.out nq
        have HB2 : Below base w (wr.drewN nq) := pw_below_drewN HB.out nq
        go_wp2
        obtain ⟨h1, h2, hg, h3⟩ := impl_Disk_lose.lose_step l1 l i g c gb base w (wr.drewN nq) hlt n0 t kk HX.out HR2 BK2 HB2 _ HZ.out.symm _ rfl
        exact ⟨⟨i + 1, by omega, rfl, ⟨h1⟩, ⟨h2⟩, ⟨impl_Disk_lose.gtrans HG.out ⟨hg.os, hg.tape, hg.output, hg.size, fun k hk hr => hg.block k hk (by simpa [Value.ownBlock] using hr)⟩⟩, ⟨h3⟩⟩, by simp [intOf]; omega⟩
      · have HZ : Aside0 (impl_Disk_lose.lz l1 i ⟨n0, t, kk⟩ = if 0 < kk then kk else 0) := ⟨by simp [impl_Disk_lose.lz, hin]⟩
        go_wp2
        obtain ⟨h1, h2, hg, h3⟩ := impl_Disk_lose.lose_step l1 l i g c gb base w wr hlt n0 t kk HX.out HR.out BK.out HB.out _ HZ.out.symm _ rfl
        exact ⟨⟨i + 1, by omega, rfl, ⟨h1⟩, ⟨h2⟩, ⟨impl_Disk_lose.gtrans HG.out ⟨hg.os, hg.tape, hg.output, hg.size, fun k hk hr => hg.block k hk (by simpa [Value.ownBlock] using hr)⟩⟩, ⟨h3⟩⟩, by simp [intOf]; omega⟩
    · obtain rfl : i = l.length := by omega
      go_wp2
      go_end0
      exact ⟨rfl, BK.out, HR.out, HG.out, HB.out⟩

/-! ### impl_LoseDisk: function 28 (given by the session) -/
def impl_LoseDisk.f (k : Nat) (l0_0 : List S45) (l1 : List Int) : Option (List S45 × Bool) :=
  (impl_DiskOk.f k l0_0).bind fun t => if t = true then (if l0_0.length ≤ 1099511627776 ∧ ∀ x ∈ l0_0, 0 ≤ x.f2 ∧ x.f2 ≤ (x.f1.size : Int) then some (impl_Disk_lose.lostTo l1 l0_0 l0_0.length, true) else none) else some ([], false)
theorem impl_LoseDisk.mono : ∀ a0 a1 k, LeO (impl_LoseDisk.f k a0 a1) (impl_LoseDisk.f (k + 1) a0 a1) := by
  intro a0 a1 k
  unfold impl_LoseDisk.f
  exact LeO.bind (impl_DiskOk.mono _ _) (fun _ => LeO.refl _)
set_option maxHeartbeats 4000000 in
set_option maxRecDepth 100000 in
theorem impl_LoseDisk.calls (k : Nat) (A0_0 : Option Addr) (c0_0 : Nat) (l0_0 : List S45) (A1 : Option Addr) (c1 : Nat) (l1 : List Int) (r1 : List S45) (r2 : Bool) (w : World) (hr0_0 : Kd.C k45 w A0_0 l0_0.length l0_0) (hc0_0 : l0_0.length ≤ c0_0) (hr1 : Kd.C (Kd.int .i64) w A1 l1.length l1) (hc1 : l1.length ≤ c1) (h : impl_LoseDisk.f k l0_0 l1 = some (r1, r2)) :
    Calls Try.prog 28 #[.agg #[.slice A0_0 l0_0.length c0_0], .slice A1 l1.length c1] w fun e w' => ∃ v0_ : Value, e = .returned (.tuple #[.agg #[v0_], .bool r2]) ∧ Kd.R k45 45 w' w.heap.size (fun _ => True) v0_ r1 ∧ Below w.heap.size w w' := by
  have HR0 := Aside0.mk hr0_0
  have HC0 := Aside0.mk hc0_0
  have HR1 := Aside0.mk hr1
  have HC1 := Aside0.mk hc1
  clear hr0_0 hc0_0 hr1 hc1
  obtain ⟨t, A, H⟩ := Option.bind_eq_some_iff.mp h
  clear h
  have HA := Aside0.mk A
  clear A
  cases t with
  | false =>
    obtain ⟨rfl, rfl⟩ : [] = r1 ∧ false = r2 := by simpa using H
    go_enter Try.func28, Try.ntmps28
    go_wp2_with (first | ((with_reducible refine gate_dst (N := 2) rfl ?_); refine box_event ?hg (N := 2) ?hd (cs := #[.slice A0_0 l0_0.length c0_0]) (t := 30) ?hr ?_; (case hd => rfl); (case hg => rfl); (case hr => first | (go_simp; done) | (go_simp; rfl)); intro gb hg_ w_gb hbox_ hb_; have H1 := Aside0.mk hb_; have B1 := Aside0.mk hbox_; have GB1 := Aside0.mk hg_; clear hb_ hbox_ hg_) | ((with_reducible refine gate_dst (N := 4) rfl ?_); refine box_event ?hg (N := 4) ?hd (cs := #[.slice none 0 0]) (t := 30) ?hr ?_; (case hd => rfl); (case hg => rfl); (case hr => first | (go_simp; done) | (go_simp; rfl)); intro gr hg_ w_gr hbox_ hb_; have H2 := Aside0.mk hb_; have B2 := Aside0.mk hbox_; have GB2 := Aside0.mk hg_; clear hb_ hbox_ hg_; have B1' := Aside0.mk (blk_below B1.out H2.out); have hcz1 : w_gr.cell? ⟨gb, 0, none⟩ = some (.slice A0_0 l0_0.length c0_0) := (blk_cell B1'.out 0).trans rfl; have HB2 := Aside0.mk (below_step H1.out H2.out); have hczr : w_gr.cell? ⟨gr, 0, none⟩ = some (.slice none 0 0) := (blk_cell B2.out 0).trans rfl; have hfzr := blk_frozen B2.out 0) | (go_at_call 21; refine (impl_DiskOk.calls k _ _ l0_0 _ _ (Kd.C_below HR0.out HB2.out) HC0.out HA.out).mono ?_; rintro e w5 ⟨rfl, hb_⟩; have H3 := Aside0.mk hb_; have HB3 := Aside0.mk (below_step HB2.out hb_); have B1'' := Aside0.mk (blk_below B1'.out hb_); have B2' := Aside0.mk (blk_below B2.out hb_); have hcz2 : w5.cell? ⟨gb, 0, none⟩ = some (.slice A0_0 l0_0.length c0_0) := (blk_cell B1''.out 0).trans rfl; have hczs : w5.cell? ⟨gr, 0, none⟩ = some (.slice none 0 0) := (blk_cell B2'.out 0).trans rfl; have hfzs := blk_frozen B2'.out 0; clear hb_))
    refine bodyPost_ret (results_ct rfl _ _ gr 30 #[.slice none 0 0] (0, 0) _ rfl (blk_put (cs := #[.slice none 0 0]) B2'.out 0 _ rfl) Try.underlying30 rfl (by kernel_rfl)) rfl ?_
    exact ⟨_, rfl, Kd.R_nil _ _ _ _ _, HB3.out.setCell (by have h2 := GB2.out; have h1 := H1.out.size; show w.heap.size ≤ gr; omega) _⟩
  | true =>
    rw [if_pos rfl] at H
    by_cases hc : l0_0.length ≤ 1099511627776 ∧ ∀ x ∈ l0_0, 0 ≤ x.f2 ∧ x.f2 ≤ (x.f1.size : Int)
    case neg => rw [if_neg hc] at H; cases H
    rw [if_pos hc] at H
    obtain ⟨rfl, rfl⟩ : impl_Disk_lose.lostTo l1 l0_0 l0_0.length = r1 ∧ true = r2 := by simpa using H
    clear H
    have HC := Aside0.mk hc
    clear hc
    have HF : Aside0 (impl_copyDisk.f l0_0 = some l0_0) := ⟨by simp [impl_copyDisk.f, impl_File.f, HC.out.1]⟩
    go_enter Try.func28, Try.ntmps28
    go_wp2_with (first | ((with_reducible refine gate_dst (N := 2) rfl ?_); refine box_event ?hg (N := 2) ?hd (cs := #[.slice A0_0 l0_0.length c0_0]) (t := 30) ?hr ?_; (case hd => rfl); (case hg => rfl); (case hr => first | (go_simp; done) | (go_simp; rfl)); intro gb hg_ w_gb hbox_ hb_; have H1 := Aside0.mk hb_; have B1 := Aside0.mk hbox_; have GB1 := Aside0.mk hg_; clear hb_ hbox_ hg_) | ((with_reducible refine gate_dst (N := 4) rfl ?_); refine box_event ?hg (N := 4) ?hd (cs := #[.slice none 0 0]) (t := 30) ?hr ?_; (case hd => rfl); (case hg => rfl); (case hr => first | (go_simp; done) | (go_simp; rfl)); intro gr hg_ w_gr hbox_ hb_; have H2 := Aside0.mk hb_; have B2 := Aside0.mk hbox_; have GB2 := Aside0.mk hg_; clear hb_ hbox_ hg_; have B1' := Aside0.mk (blk_below B1.out H2.out); have hcz1 : w_gr.cell? ⟨gb, 0, none⟩ = some (.slice A0_0 l0_0.length c0_0) := (blk_cell B1'.out 0).trans rfl; have HB2 := Aside0.mk (below_step H1.out H2.out); have hczr : w_gr.cell? ⟨gr, 0, none⟩ = some (.slice none 0 0) := (blk_cell B2.out 0).trans rfl; have hfzr := blk_frozen B2.out 0) | (go_at_call 21; refine (impl_DiskOk.calls k _ _ l0_0 _ _ (Kd.C_below HR0.out HB2.out) HC0.out HA.out).mono ?_; rintro e w5 ⟨rfl, hb_⟩; have H3 := Aside0.mk hb_; have HB3 := Aside0.mk (below_step HB2.out hb_); have B1'' := Aside0.mk (blk_below B1'.out hb_); have B2' := Aside0.mk (blk_below B2.out hb_); have hcz2 : w5.cell? ⟨gb, 0, none⟩ = some (.slice A0_0 l0_0.length c0_0) := (blk_cell B1''.out 0).trans rfl; have hczs : w5.cell? ⟨gr, 0, none⟩ = some (.slice none 0 0) := (blk_cell B2'.out 0).trans rfl; have hfzs := blk_frozen B2'.out 0; clear hb_) | (go_at_call 82; refine (impl_copyDisk.calls _ _ l0_0 l0_0 _ (Kd.C_below HR0.out HB3.out) HC0.out HF.out).mono ?_; rintro e w6 ⟨v1, rfl, ho_, hb_⟩; have HO := Aside0.mk (Kd.R_lower ho_ (below_size HB3.out)); have H4 := Aside0.mk hb_; have HB4 := Aside0.mk (below_step HB3.out hb_); have B2'' := Aside0.mk (blk_below B2'.out hb_); clear ho_ hb_; obtain ⟨Ao, co, eo⟩ := Kd.R_slice HO.out; subst eo) | ((with_reducible refine gate_dst (N := 6) rfl ?_); refine box_event ?hg (N := 6) ?hd (cs := #[.slice none 0 0]) (t := 30) ?hr ?_; (case hd => rfl); (case hg => rfl); (case hr => first | (go_simp; done) | (go_simp; rfl)); intro go hg_ w_go hbox_ hb_; have H5 := Aside0.mk hb_; have B3 := Aside0.mk hbox_; have GB3 := Aside0.mk hg_; clear hb_ hbox_ hg_; have B2t := Aside0.mk (blk_below B2''.out H5.out); have HB5 := Aside0.mk (below_step HB4.out H5.out); have hczo : w_go.cell? ⟨go, 0, none⟩ = some (.slice none 0 0) := (blk_cell B3.out 0).trans rfl; have hfzo := blk_frozen B3.out 0))
    have hgo : w.heap.size ≤ go := by have h1 := GB3.out; have h2 := below_size HB4.out; omega
    have hgr : w.heap.size ≤ gr := by have h2 := GB2.out; have h1 := H1.out.size; omega
    have HBW := Aside0.mk (HB5.out.setCell (p := ⟨go, 0, none⟩) hgo (.slice Ao l0_0.length co))
    have HO5 := Aside0.mk (Kd.R_below HO.out H5.out)
    have HOW := Aside0.mk (Kd.R_mono (Kd.R_far (p := ⟨go, 0, none⟩) (Kd.R_types HO5.out B3.out (by decide)) (fun _ hk => hk.2) (.slice Ao l0_0.length co)) (fun _ hk => trivial) : Kd.R k45 45 _ w.heap.size (fun _ => True) (.slice Ao l0_0.length co) l0_0)
    have HNr := Aside0.mk (Kd.R_ne HO5.out B2t.out (by decide))
    have hne : gr ≠ go := by have h1 := GB3.out; have h2 := blk_lt B2''.out; omega
    have BrW := Aside0.mk ((Below.heap_setCell w_go ⟨go, 0, none⟩ (.slice Ao l0_0.length co) gr hne).trans B2t.out)
    go_at_call 83
    refine (impl_Disk_lose.calls go (.slice Ao l0_0.length co) l0_0 A1 c1 l1 w.heap.size _ HOW.out (blk_put (cs := #[.slice none 0 0]) B3.out 0 _ rfl) (fun w' hb => Kd.C_below HR1.out (HBW.out.trans hb)) HC1.out HC.out.2 HC.out.1).mono ?_
    rintro e w8 ⟨rfl, hbx, hR8, hG8, hB8⟩
    have HB8 := Aside0.mk (HBW.out.trans hB8)
    have HR8 := Aside0.mk hR8
    have Br8 := Aside0.mk ((hG8.block gr (blk_lt BrW.out) HNr.out).trans BrW.out)
    have hczv : w8.cell? ⟨go, 0, none⟩ = some (.slice Ao l0_0.length co) := (blk_cell hbx 0).trans rfl
    have hczw : w8.cell? ⟨gr, 0, none⟩ = some (.slice none 0 0) := (blk_cell Br8.out 0).trans rfl
    have hfzw := blk_frozen Br8.out 0
    clear hbx hR8 hG8 hB8
    go_wp2
    refine bodyPost_ret (results_ct rfl _ _ gr 30 #[.slice Ao l0_0.length co] (0, 0) _ rfl (blk_put (cs := #[.slice none 0 0]) Br8.out 0 _ rfl) Try.underlying30 rfl (by kernel_rfl)) rfl ?_
    exact ⟨_, rfl, Kd.R_mono (Kd.R_far (p := ⟨gr, 0, none⟩) (Kd.R_types HR8.out Br8.out (by decide)) (fun _ hk => hk.2) (.slice Ao l0_0.length co)) (fun _ hk => trivial), HB8.out.setCell hgr _⟩

/-! ### spec_l01In: function 74 -/
def spec_l01In.f (a0 : Int) (a1 : Int) (a2 : Int) : Option (Bool) := if a0 ≥ a1 then (some (decide (a0 ≤ a2))) else (some false)
set_option maxHeartbeats 8000000 in
set_option maxRecDepth 100000 in
theorem spec_l01In.calls (a0 : Int) (a1 : Int) (a2 : Int) (r : Bool) (w : World) (h : spec_l01In.f a0 a1 a2 = some r) :
    Calls Try.prog 74 #[.int .i64 a0, .int .i64 a1, .int .i64 a2] w fun e w' => e = .returned (.bool r) ∧ Drawn0 w w' := by
  have H : (if a0 ≥ a1 then (some (decide (a0 ≤ a2))) else (some false)) = some r := h
  clear h
  by_cases c4 : a0 ≥ a1
  · rw [if_pos c4] at H
    have c4b0 : decide (a1 ≤ a0) = true := decide_eq_true c4
    clear c4
    obtain rfl := Option.some.inj H
    go_enter Try.func74, Try.ntmps74
    go_wp2
    go_ret
    exact ⟨by first | rfl | (simp; done) | (simp [*]; done), by repeat (first | exact Drawn0.refl _ | apply Drawn0.step)⟩
  · rw [if_neg c4] at H
    have c4b0 : decide (a1 ≤ a0) = false := decide_eq_false c4
    clear c4
    obtain rfl := Option.some.inj H
    go_enter Try.func74, Try.ntmps74
    go_wp2
    go_ret
    exact ⟨by first | rfl | (simp; done) | (simp [*]; done), by repeat (first | exact Drawn0.refl _ | apply Drawn0.step)⟩

/-! ### spec_l03Name: function 73 -/
def spec_l03Name.f (a0 : ByteArray) : Option (Bool) := (spec_l01In.f (a0.size : Int) 1 8).bind fun t144 => (some t144)
set_option maxHeartbeats 8000000 in
set_option maxRecDepth 100000 in
theorem spec_l03Name.calls (a0 : ByteArray) (r : Bool) (w : World) (h : spec_l03Name.f a0 = some r) :
    Calls Try.prog 73 #[.string a0] w fun e w' => e = .returned (.bool r) ∧ Drawn0 w w' := by
  have H : ((spec_l01In.f (a0.size : Int) 1 8).bind fun t144 => (some t144)) = some r := h
  clear h
  replace H := Option.bind_eq_some_iff.mp H
  obtain ⟨t144, A20, H⟩ := H
  replace H : (some t144) = some r := H
  have A2 := aM A20
  clear A20
  obtain rfl := Option.some.inj H
  go_enter Try.func73, Try.ntmps73
  go_wp2_with (first | ((with_reducible refine gate_callee (f := 74) rfl ?_); refine goesL_ (some 5) rfl rfl Try.func74 (by kernel_rfl) rfl #[.int .i64 (a0.size : Int), .int .i64 1, .int .i64 8] rfl (by (try simp only [mT, mC, mN]); first | done | rfl | (simp only [lDr, lTk]; rfl)) ?_; (with_reducible refine (spec_l01In.calls (a0.size : Int) 1 8 t144 _ A2.out).mono ?_); rintro e w' ⟨rfl, ⟨nd, rfl⟩⟩; refine ⟨_, rfl, ?_⟩))
  go_ret
  exact ⟨by first | rfl | (simp; done) | (simp [*]; done), by repeat (first | exact Drawn0.refl _ | apply Drawn0.step)⟩

end Go.Proofs.Ytidfhfaekdahpaa.QFnExactLoseDisk
