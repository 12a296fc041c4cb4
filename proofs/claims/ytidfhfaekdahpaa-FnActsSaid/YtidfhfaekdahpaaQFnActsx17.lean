-- Own work (wip/turnprint.py over the kit's print).
import Derived.Test.YtidfhfaekdahpaaQFnActsx0
import Derived.Test.YtidfhfaekdahpaaQFnActsx2
import Derived.Test.YtidfhfaekdahpaaQFnActsx3
import Derived.Test.YtidfhfaekdahpaaQFnActsx13
namespace Go.Proofs.Ytidfhfaekdahpaa.QFnActs
open Go.RowKit Go.Proofs.YtidfhfaekdahpaaW.PrintWords Go.Proofs.YtidfhfaekdahpaaW.PrintLast Go.Proofs.YtidfhfaekdahpaaW.PrintMore
attribute [local go_sem] max2_int min2_int max_two min_two max_three min_three max_four min_four   -- for this text's walks alone
set_option linter.unusedVariables false
set_option linter.unusedSimpArgs false

/-! ### impl_Disk_lose: function 83 (given by the session) -/
/-- what is left of a text -/
def impl_Disk_lose.lz (l1 : List Int) (i : Nat) (x : S45) : Int :=
 if (if i < l1.length then (if (0 : Int) < (if (x.f1.size : Int) < l1.getD i 0 then (x.f1.size : Int) else l1.getD i 0) then (if (x.f1.size : Int) < l1.getD i 0 then (x.f1.size : Int) else l1.getD i 0) else 0) else 0) < x.f2 then x.f2 else (if i < l1.length then (if (0 : Int) < (if (x.f1.size : Int) < l1.getD i 0 then (x.f1.size : Int) else l1.getD i 0) then (if (x.f1.size : Int) < l1.getD i 0 then (x.f1.size : Int) else l1.getD i 0) else 0) else 0)
def impl_Disk_lose.lx (l1 : List Int) (i : Nat) (x : S45) : S45 := ⟨x.f0, x.f1.extract 0 (impl_Disk_lose.lz l1 i x).toNat, impl_Disk_lose.lz l1 i x⟩
def impl_Disk_lose.lostTo (l1 : List Int) (l : List S45) : Nat → List S45
 | 0 => l
 | n + 1 => (impl_Disk_lose.lostTo l1 l n).set n (impl_Disk_lose.lx l1 n (l.getD n z45))
theorem impl_Disk_lose.lostTo_length (l1 : List Int) (l : List S45) (n : Nat) : (impl_Disk_lose.lostTo l1 l n).length = l.length := by
 induction n with
 | zero => rfl
 | succ n ih => rw [impl_Disk_lose.lostTo, List.length_set, ih]
theorem impl_Disk_lose.lostTo_ge (l1 : List Int) (l : List S45) (n j : Nat) (h : n ≤ j) : (impl_Disk_lose.lostTo l1 l n).getD j z45 = l.getD j z45 := by
 induction n with
 | zero => rfl
 | succ n ih =>
  rw [impl_Disk_lose.lostTo, List.getD_eq_getElem?_getD, List.getElem?_set_ne (by omega), ← List.getD_eq_getElem?_getD, ih (by omega)]
theorem impl_Disk_lose.gtrans {a b c : World} {row : Option Nat} (h1 : a.grownBy b row) (h2 : b.grownBy c row) : a.grownBy c row := ⟨h2.os.trans h1.os, h2.tape.trans h1.tape, h2.output.trans h1.output, Nat.le_trans h1.size h2.size, fun k hk hr => (h2.block k (by have := h1.size; omega) hr).trans (h1.block k hk hr)⟩
theorem impl_Disk_lose.lose_step (l1 : List Int) (l : List S45) (i g c gb base : Nat) (w wr : World) (hi : i < l.length) (n0 t : ByteArray) (kk : Int) (hx : (⟨n0, t, kk⟩ : S45) = l.getD i z45) (HR : Kd.R k45 45 wr base (fun _ => True) (.slice (some ⟨g, 0, none⟩) l.length c) (impl_Disk_lose.lostTo l1 l i))
 (BK : wr.heap[gb]? = some (.cells #[.slice (some ⟨g, 0, none⟩) l.length c] 30 (0, 0))) (HB : Below base w wr) (n : Int) (hn : n = impl_Disk_lose.lz l1 i ⟨n0, t, kk⟩) (t' : ByteArray) (ht : t' = t.extract 0 n.toNat) :
 Kd.R k45 45 ((wr.setCell ⟨g, i * 3 + 1, none⟩ (.string t')).setCell ⟨g, i * 3 + 2, none⟩ (.int .i64 n)) base (fun _ => True) (.slice (some ⟨g, 0, none⟩) l.length c) (impl_Disk_lose.lostTo l1 l (i + 1)) ∧
 ((wr.setCell ⟨g, i * 3 + 1, none⟩ (.string t')).setCell ⟨g, i * 3 + 2, none⟩ (.int .i64 n)).heap[gb]? = some (.cells #[.slice (some ⟨g, 0, none⟩) l.length c] 30 (0, 0)) ∧ wr.grownBy ((wr.setCell ⟨g, i * 3 + 1, none⟩ (.string t')).setCell ⟨g, i * 3 + 2, none⟩ (.int .i64 n)) (some g) ∧
 Below base w ((wr.setCell ⟨g, i * 3 + 1, none⟩ (.string t')).setCell ⟨g, i * 3 + 2, none⟩ (.int .i64 n)) := by
 have hlen := impl_Disk_lose.lostTo_length l1 l i
 obtain ⟨cs, hcl, hM, hcc, hfr⟩ := Kd.R_elem HR z45 (i : Int) (by omega) (by omega)
 rw [Int.toNat_natCast, impl_Disk_lose.lostTo_ge _ _ _ _ (Nat.le_refl _), ← hx] at hM
 obtain rfl := k45_openM hM
 have hs := Kd.R_seg HR (i : Int) (by omega) (by omega) (c := [.string n0, .string t, .int .i64 kk]) (seg := [.string t', .int .i64 n]) (j := 1) hcl hcc (Nat.le_refl 3) (x' := impl_Disk_lose.lx l1 i ⟨n0, t, kk⟩) (okp := fun _ => False)
  (by
   have h1 := k45_mkM wr base (fun _ => False) (impl_Disk_lose.lx l1 i ⟨n0, t, kk⟩)
   have e : (⟨n0, t', n⟩ : S45) = impl_Disk_lose.lx l1 i ⟨n0, t, kk⟩ := by rw [impl_Disk_lose.lx, ← hn, ht]
   rw [← e] at h1 ⊢
   exact h1) (fun _ h => h.elim)
 have hbase : base ≤ g := Kd.R_base HR g (by simp [Value.ownBlock])
 have hne : some gb ≠ (Value.slice (some ⟨g, 0, none⟩) l.length c).ownBlock := Kd.R_ne HR BK (by decide)
 obtain ⟨h1, h2⟩ := hs
 rw [Int.toNat_natCast] at h1 h2
 refine ⟨?_, ?_, h2, ?_⟩
 ·have e : impl_Disk_lose.lostTo l1 l (i + 1) = (impl_Disk_lose.lostTo l1 l i).set i (impl_Disk_lose.lx l1 i ⟨n0, t, kk⟩) := by rw [impl_Disk_lose.lostTo, hx]
  rw [e]
  exact h1
 ·refine Eq.trans ?_ BK
  have hgb : gb ≠ g := fun he => hne (by rw [he]; simp [Value.ownBlock])
  exact (Below.heap_setCell _ _ _ _ hgb).trans (Below.heap_setCell _ _ _ _ hgb)
 ·exact (HB.setCell hbase _).setCell hbase _
set_option maxHeartbeats 4000000 in
set_option maxRecDepth 100000 in
theorem impl_Disk_lose.calls (gb : Nat) (v : Value) (l : List S45) (A1 : Option Addr) (c1 : Nat) (l1 : List Int) (base : Nat) (w : World) (hR : Kd.R k45 45 w base (fun _ => True) v l) (hb : w.heap[gb]? = some (.cells #[v] 30 (0, 0))) (hr1 : ∀ w', Below base w w' → Kd.C (Kd.int .i64) w' A1 l1.length l1) (hc1 : l1.length ≤ c1) (hk : ∀ x ∈ l, 0 ≤ x.f2 ∧ x.f2 ≤ (x.f1.size : Int)) (hl : l.length ≤ 1099511627776) :
 Calls Try.prog 83 #[.pointer (some ⟨gb, 0, none⟩), .slice A1 l1.length c1] w fun e w' => e = .returned (.tuple #[]) ∧ w'.heap[gb]? = some (.cells #[v] 30 (0, 0)) ∧ Kd.R k45 45 w' base (fun _ => True) v (impl_Disk_lose.lostTo l1 l l.length) ∧ w.grownBy w' v.ownBlock ∧ Below base w w' := by
 have HB := Aside0.mk (Below.refl base w)
 obtain ⟨A, c, rfl⟩ := Kd.R_slice hR
 have HR := Aside0.mk hR
 have HR1 := Aside0.mk hr1
 have HC1 := Aside0.mk hc1
 have HK := Aside0.mk hk
 clear hR hr1 hc1 hk
 have BK := Aside0.mk hb
 have hcz0 := czA hb 0 (.slice A l.length c)
 clear hb
 go_enter Try.func83, Try.ntmps83
 go_wp2
 go_loopw [12] (fun v12 wr => ∃ i : Nat, i ≤ l.length ∧ v12 = .int .i64 (i : Int) ∧ Aside0 (Kd.R k45 45 wr base (fun _ => True) (.slice A l.length c) (impl_Disk_lose.lostTo l1 l i)) ∧ Aside0 (wr.heap[gb]? = some (.cells #[.slice A l.length c] 30 (0, 0))) ∧ Aside0 (w.grownBy wr (Value.slice A l.length c).ownBlock) ∧ Aside0 (Below base w wr)) (fun v12 _ => l.length - (intOf v12).toNat)
 case atStart => exact ⟨0, Nat.zero_le _, rfl, HR, BK, ⟨World.grownBy.refl _ _⟩, HB⟩
 case round =>
  clear HR BK HB hcz0
  obtain ⟨i, hi, rfl, HR, BK, HG, HB⟩ := hrel
  by_cases hlt : i < l.length
  ·have hcz0 := czA BK.out 0 (.slice A l.length c)
   obtain ⟨g, rfl⟩ : ∃ g, A = some ⟨g, 0, none⟩ := by
    obtain ⟨n', _, hC⟩ := Kd.R_reads' HR.out
    obtain ⟨ad, h1, _⟩ := hC.2.2 (by omega)
    subst h1
    obtain ⟨g, rfl⟩ := Kd.R_head HR.out
    exact ⟨g, rfl⟩
   obtain ⟨cs, hcl, hM, hcc, hfr⟩ := Kd.R_elem HR.out z45 (i : Int) (by omega) (by omega)
   rw [Int.toNat_natCast, impl_Disk_lose.lostTo_ge _ _ _ _ (Nat.le_refl _)] at hM
   obtain rfl := k45_openM hM
   obtain ⟨⟨n0, t, kk⟩, hx⟩ : ∃ x, x = l.getD i z45 := ⟨_, rfl⟩
   have hkx := HK.out ⟨n0, t, kk⟩ (by rw [hx, List.getD_eq_getElem?_getD, List.getElem?_eq_getElem hlt]; exact List.getElem_mem _)
   rw [← hx] at hM hcc hcl
   simp only [Int.toNat_natCast] at hcc hfr
   have hc0 : wr.cell? ⟨g, i * 3, none⟩ = _ := hcc 0 _ rfl
   have hc1 : wr.cell? ⟨g, i * 3 + 1, none⟩ = _ := hcc 1 _ rfl
   have hc2 : wr.cell? ⟨g, i * 3 + 2, none⟩ = _ := hcc 2 _ rfl
   have hf1 : wr.frozen? ⟨g, i * 3 + 1, none⟩ = false := hfr 1
   have hf2 : wr.frozen? ⟨g, i * 3 + 2, none⟩ = false := hfr 2
   clear hcc hfr
   have HX := Aside0.mk hx
   clear hx hM hcl
   obtain ⟨hk0, hk1⟩ := hkx
   dsimp only at hk0 hk1 hc0 hc1 hc2
   have hts : (0 : Int) ≤ (t.size : Int) := by omega
   by_cases hin : i < l1.length
   ·have HZ : Aside0 (impl_Disk_lose.lz l1 i ⟨n0, t, kk⟩ = if (if 0 < (if (t.size : Int) < rd l1 (i : Int) then (t.size : Int) else rd l1 (i : Int)) then (if (t.size : Int) < rd l1 (i : Int) then (t.size : Int) else rd l1 (i : Int)) else 0) < kk then kk else (if 0 < (if (t.size : Int) < rd l1 (i : Int) then (t.size : Int) else rd l1 (i : Int)) then (if (t.size : Int) < rd l1 (i : Int) then (t.size : Int) else rd l1 (i : Int)) else 0)) := ⟨by simp [impl_Disk_lose.lz, hin, rd]⟩
    obtain ⟨ad, rfl, hq⟩ := Kd.at_int (HR1.out wr HB.out) (i : Int) (by omega) (by omega)
    have hl1 : (l1.length : Int) ≤ 9223372036854775807 := by have := (HR1.out wr HB.out).2.1; omega
    simp only [Int.toNat_natCast] at hq
    generalize rd l1 (i : Int) = q at hq HZ
    go_wp2
    go_quiet (fail)
    have hm : 0 ≤ (if 0 < (if (t.size : Int) < q then (t.size : Int) else q) then (if (t.size : Int) < q then (t.size : Int) else q) else 0) ∧ (if 0 < (if (t.size : Int) < q then (t.size : Int) else q) then (if (t.size : Int) < q then (t.size : Int) else q) else 0) ≤ (t.size : Int) := by
     repeat' split
     all_goals omega
    generalize (if 0 < (if (t.size : Int) < q then (t.size : Int) else q) then (if (t.size : Int) < q then (t.size : Int) else q) else 0) = m at hm HZ ⊢
    obtain ⟨hm0, hm1⟩ := hm
    have BK2 : (wr.drewN nq).heap[gb]? = some (.cells #[.slice (some ⟨g, 0, none⟩) l.length c] 30 (0, 0)) := blk_drewN BK.out nq
    have HR2 := Kd.R_drewN HR.out nq
    have HB2 : Below base w (wr.drewN nq) := pw_below_drewN HB.out nq
    go_wp2
    obtain ⟨h1, h2, hg, h3⟩ := impl_Disk_lose.lose_step l1 l i g c gb base w (wr.drewN nq) hlt n0 t kk HX.out HR2 BK2 HB2 _ HZ.out.symm _ rfl
    exact ⟨⟨i + 1, by omega, rfl, ⟨h1⟩, ⟨h2⟩, ⟨impl_Disk_lose.gtrans HG.out ⟨hg.os, hg.tape, hg.output, hg.size, fun k hk hr => hg.block k hk (by simpa [Value.ownBlock] using hr)⟩⟩, ⟨h3⟩⟩, by simp [intOf]; omega⟩
   ·have HZ : Aside0 (impl_Disk_lose.lz l1 i ⟨n0, t, kk⟩ = if 0 < kk then kk else 0) := ⟨by simp [impl_Disk_lose.lz, hin]⟩
    go_wp2
    obtain ⟨h1, h2, hg, h3⟩ := impl_Disk_lose.lose_step l1 l i g c gb base w wr hlt n0 t kk HX.out HR.out BK.out HB.out _ HZ.out.symm _ rfl
    exact ⟨⟨i + 1, by omega, rfl, ⟨h1⟩, ⟨h2⟩, ⟨impl_Disk_lose.gtrans HG.out ⟨hg.os, hg.tape, hg.output, hg.size, fun k hk hr => hg.block k hk (by simpa [Value.ownBlock] using hr)⟩⟩, ⟨h3⟩⟩, by simp [intOf]; omega⟩
  ·obtain rfl : i = l.length := by omega
   go_wp2
   go_end0
   exact ⟨rfl, BK.out, HR.out, HG.out, HB.out⟩

/-! ### impl_CutActs: function 48 (given by the session) -/
def impl_CutActs.f (k : Nat) (l0_0 : List S45) (l1 : List S55) (a2 : Int) (l3 : List Int) : Option (List S45 × Bool) :=
 (impl_inRange.f a2 0 (l1.length : Int)).bind fun t => if t = true then ((impl_DiskOk.f k l0_0).bind fun u => if u = true then ((impl_DoActs.f k l0_0 (l1.take a2.toNat)).bind fun p => if p.2 = a2 then (if p.1.length ≤ 1099511627776 ∧ ∀ x ∈ p.1, 0 ≤ x.f2 ∧ x.f2 ≤ (x.f1.size : Int) then some (impl_Disk_lose.lostTo l3 p.1 p.1.length, true) else none) else some ([], false)) else some ([], false)) else some ([], false)
theorem impl_CutActs.mono : ∀ a0 a1 a2 a3 k, LeO (impl_CutActs.f k a0 a1 a2 a3) (impl_CutActs.f (k + 1) a0 a1 a2 a3) := by
 intro a0 a1 a2 a3 k
 unfold impl_CutActs.f
 refine LeO.bind (LeO.refl _) (fun t => ?_)
 split
 ·refine LeO.bind (impl_DiskOk.mono _ _) (fun u => ?_)
  split
  ·exact LeO.bind (impl_DoActs.mono _ _ _) (fun _ => LeO.refl _)
  ·exact LeO.refl _
 ·exact LeO.refl _
theorem impl_CutActs.range {a b : Int} (h : impl_inRange.f a 0 b = some true) : 0 ≤ a ∧ a ≤ b := by
 unfold impl_inRange.f at h
 split at h
 ·injection h with h
  have := of_decide_eq_true h
  omega
 ·cases h
set_option maxHeartbeats 4000000 in
set_option maxRecDepth 100000 in
theorem impl_CutActs.calls (k : Nat) (A0_0 : Option Addr) (c0_0 : Nat) (l0_0 : List S45) (A1 : Option Addr) (c1 : Nat) (l1 : List S55) (a2 : Int) (A3 : Option Addr) (c3 : Nat) (l3 : List Int) (r1 : List S45) (r2 : Bool) (w : World) (hr0_0 : Kd.C k45 w A0_0 l0_0.length l0_0) (hc0_0 : l0_0.length ≤ c0_0) (hr1 : Kd.C k55 w A1 l1.length l1) (hc1 : l1.length ≤ c1) (hr3 : Kd.C (Kd.int .i64) w A3 l3.length l3) (hc3 : l3.length ≤ c3) (h : impl_CutActs.f k l0_0 l1 a2 l3 = some (r1, r2)) :
 Calls Try.prog 48 #[.agg #[.slice A0_0 l0_0.length c0_0], .slice A1 l1.length c1, .int .i64 a2, .slice A3 l3.length c3] w fun e w' => ∃ v0_ : Value, e = .returned (.tuple #[.agg #[v0_], .bool r2]) ∧ Kd.R k45 45 w' w.heap.size (fun _ => True) v0_ r1 ∧ Below w.heap.size w w' := by
 have HR0 := Aside0.mk hr0_0
 have HC0 := Aside0.mk hc0_0
 have HR1 := Aside0.mk hr1
 have HC1 := Aside0.mk hc1
 have HR3 := Aside0.mk hr3
 have HC3 := Aside0.mk hc3
 clear hr0_0 hc0_0 hr1 hc1 hr3 hc3
 unfold impl_CutActs.f at h
 obtain ⟨t, hI, H⟩ := Option.bind_eq_some_iff.mp h
 clear h
 have HI := Aside0.mk hI
 cases t with
 | false =>
  obtain ⟨rfl, rfl⟩ : [] = r1 ∧ false = r2 := by simpa using H
  clear H hI
  go_enter Try.func48, Try.ntmps48
  go_wp2_with (first | ((with_reducible refine gate_dst (N := 4) rfl ?_); refine bxE 4 #[.slice A0_0 l0_0.length c0_0] 30 ?_; intro gb hg_ w1 hbox_ hb_; have H1 := Aside0.mk hb_; have BD1 := Aside0.mk hbox_; have GB1 := Aside0.mk hg_; clear hb_ hbox_ hg_; have hczd := czA BD1.out 0 (.slice A0_0 l0_0.length c0_0)) | ((with_reducible refine gate_dst (N := 8) rfl ?_); refine bxE 8 #[.slice none 0 0] 30 ?_; intro gr hg_ w3 hbox_ hb_; have H3 := Aside0.mk hb_; have BR3 := Aside0.mk hbox_; have GR3 := Aside0.mk hg_; clear hb_ hbox_ hg_; have BD3 := Aside0.mk (blk_below BD1.out H3.out); have HB3 := Aside0.mk (below_step H1.out H3.out); have hczd := czA BD3.out 0 (.slice A0_0 l0_0.length c0_0); have hczr := czA BR3.out 0 (.slice none 0 0); have hfzr := blk_frozen BR3.out 0) | (go_at_call 94; refine (impl_inRange.calls _ _ _ _ _ HI.out).mono ?_; rintro e w4 ⟨rfl, hd_⟩; obtain ⟨nd, hnd⟩ := hd_.out; have HB4 : Aside0 (Below w.heap.size w w4) := ⟨by rw [hnd]; exact pw_below_drewN HB3.out nd⟩; have BD4 : Aside0 (w4.heap[gb]? = some (.cells #[.slice A0_0 l0_0.length c0_0] 30 (0, 0))) := ⟨by rw [hnd]; exact blk_drewN BD3.out nd⟩; have BR4 : Aside0 (w4.heap[gr]? = some (.cells #[.slice none 0 0] 30 (0, 0))) := ⟨by rw [hnd]; exact blk_drewN BR3.out nd⟩; clear hnd hd_; have hczd := czA BD4.out 0 (.slice A0_0 l0_0.length c0_0); have hczr := czA BR4.out 0 (.slice none 0 0); have hfzr := blk_frozen BR4.out 0))
  refine bodyPost_ret (results_ct rfl _ _ gr 30 #[.slice none 0 0] (0, 0) _ rfl (blk_put (cs := #[.slice none 0 0]) BR4.out 0 _ rfl) Try.underlying30 rfl (by kernel_rfl)) rfl ?_
  exact ⟨_, rfl, Kd.R_nil _ _ _ _ _, HB4.out.setCell (by have h2 := GR3.out; have h1 := below_size H1.out; show w.heap.size ≤ gr; omega) _⟩
 | true =>
  rw [if_pos rfl] at H
  obtain ⟨h0m, hm1⟩ := impl_CutActs.range hI
  clear hI
  obtain ⟨m, rfl⟩ := Int.eq_ofNat_of_zero_le h0m
  rw [Int.toNat_natCast] at H
  have HM := Aside0.mk (show m ≤ l1.length by omega)
  have HLEN := Aside0.mk (show (l1.take m).length = m by rw [List.length_take]; have := HM.out; omega)
  obtain ⟨u, hA, H2⟩ := Option.bind_eq_some_iff.mp H
  have HA := Aside0.mk hA
  clear H hA
  cases u with
  | false =>
   obtain ⟨rfl, rfl⟩ : [] = r1 ∧ false = r2 := by simpa using H2
   clear H2
   go_enter Try.func48, Try.ntmps48
   go_wp2_with (first | ((with_reducible refine gate_dst (N := 4) rfl ?_); refine bxE 4 #[.slice A0_0 l0_0.length c0_0] 30 ?_; intro gb hg_ w1 hbox_ hb_; have H1 := Aside0.mk hb_; have BD1 := Aside0.mk hbox_; have GB1 := Aside0.mk hg_; clear hb_ hbox_ hg_; have hczd := czA BD1.out 0 (.slice A0_0 l0_0.length c0_0)) | ((with_reducible refine gate_dst (N := 8) rfl ?_); refine bxE 8 #[.slice none 0 0] 30 ?_; intro gr hg_ w3 hbox_ hb_; have H3 := Aside0.mk hb_; have BR3 := Aside0.mk hbox_; have GR3 := Aside0.mk hg_; clear hb_ hbox_ hg_; have BD3 := Aside0.mk (blk_below BD1.out H3.out); have HB3 := Aside0.mk (below_step H1.out H3.out); have hczd := czA BD3.out 0 (.slice A0_0 l0_0.length c0_0); have hczr := czA BR3.out 0 (.slice none 0 0); have hfzr := blk_frozen BR3.out 0) | (go_at_call 94; refine (impl_inRange.calls _ _ _ _ _ HI.out).mono ?_; rintro e w4 ⟨rfl, hd_⟩; obtain ⟨nd, hnd⟩ := hd_.out; have HB4 : Aside0 (Below w.heap.size w w4) := ⟨by rw [hnd]; exact pw_below_drewN HB3.out nd⟩; have BD4 : Aside0 (w4.heap[gb]? = some (.cells #[.slice A0_0 l0_0.length c0_0] 30 (0, 0))) := ⟨by rw [hnd]; exact blk_drewN BD3.out nd⟩; have BR4 : Aside0 (w4.heap[gr]? = some (.cells #[.slice none 0 0] 30 (0, 0))) := ⟨by rw [hnd]; exact blk_drewN BR3.out nd⟩; clear hnd hd_; have hczd := czA BD4.out 0 (.slice A0_0 l0_0.length c0_0); have hczr := czA BR4.out 0 (.slice none 0 0); have hfzr := blk_frozen BR4.out 0) | (go_at_call 21; refine (impl_DiskOk.calls k _ _ l0_0 _ _ (Kd.C_below HR0.out HB4.out) HC0.out HA.out).mono ?_; rintro e w5 ⟨rfl, hb_⟩; have HB5 := Aside0.mk (below_step HB4.out hb_); have BD5 := Aside0.mk (blk_below BD4.out hb_); have BR5 := Aside0.mk (blk_below BR4.out hb_); clear hb_; have hczd := czA BD5.out 0 (.slice A0_0 l0_0.length c0_0); have hczr := czA BR5.out 0 (.slice none 0 0); have hfzr := blk_frozen BR5.out 0))
   refine bodyPost_ret (results_ct rfl _ _ gr 30 #[.slice none 0 0] (0, 0) _ rfl (blk_put (cs := #[.slice none 0 0]) BR5.out 0 _ rfl) Try.underlying30 rfl (by kernel_rfl)) rfl ?_
   exact ⟨_, rfl, Kd.R_nil _ _ _ _ _, HB5.out.setCell (by have h2 := GR3.out; have h1 := below_size H1.out; show w.heap.size ≤ gr; omega) _⟩
  | true =>
   rw [if_pos rfl] at H2
   obtain ⟨⟨p1, p2⟩, hP, hQ⟩ := Option.bind_eq_some_iff.mp H2
   have HP := Aside0.mk hP
   have HH := Aside0.mk hQ
   clear H2 hP hQ
   have hmc : (m : Int) ≤ (c1 : Int) := by have h1 := HC1.out; have h2 := HM.out; omega
   go_enter Try.func48, Try.ntmps48
   go_wp2_with (first | ((with_reducible refine gate_dst (N := 4) rfl ?_); refine bxE 4 #[.slice A0_0 l0_0.length c0_0] 30 ?_; intro gb hg_ w1 hbox_ hb_; have H1 := Aside0.mk hb_; have BD1 := Aside0.mk hbox_; have GB1 := Aside0.mk hg_; clear hb_ hbox_ hg_; have hczd := czA BD1.out 0 (.slice A0_0 l0_0.length c0_0)) | ((with_reducible refine gate_dst (N := 8) rfl ?_); refine bxE 8 #[.slice none 0 0] 30 ?_; intro gr hg_ w3 hbox_ hb_; have H3 := Aside0.mk hb_; have BR3 := Aside0.mk hbox_; have GR3 := Aside0.mk hg_; clear hb_ hbox_ hg_; have BD3 := Aside0.mk (blk_below BD1.out H3.out); have HB3 := Aside0.mk (below_step H1.out H3.out); have hczd := czA BD3.out 0 (.slice A0_0 l0_0.length c0_0); have hczr := czA BR3.out 0 (.slice none 0 0); have hfzr := blk_frozen BR3.out 0) | (go_at_call 94; refine (impl_inRange.calls _ _ _ _ _ HI.out).mono ?_; rintro e w4 ⟨rfl, hd_⟩; obtain ⟨nd, hnd⟩ := hd_.out; have HB4 : Aside0 (Below w.heap.size w w4) := ⟨by rw [hnd]; exact pw_below_drewN HB3.out nd⟩; have BD4 : Aside0 (w4.heap[gb]? = some (.cells #[.slice A0_0 l0_0.length c0_0] 30 (0, 0))) := ⟨by rw [hnd]; exact blk_drewN BD3.out nd⟩; have BR4 : Aside0 (w4.heap[gr]? = some (.cells #[.slice none 0 0] 30 (0, 0))) := ⟨by rw [hnd]; exact blk_drewN BR3.out nd⟩; clear hnd hd_; have hczd := czA BD4.out 0 (.slice A0_0 l0_0.length c0_0); have hczr := czA BR4.out 0 (.slice none 0 0); have hfzr := blk_frozen BR4.out 0) | (go_at_call 21; refine (impl_DiskOk.calls k _ _ l0_0 _ _ (Kd.C_below HR0.out HB4.out) HC0.out HA.out).mono ?_; rintro e w5 ⟨rfl, hb_⟩; have HB5 := Aside0.mk (below_step HB4.out hb_); have BD5 := Aside0.mk (blk_below BD4.out hb_); have BR5 := Aside0.mk (blk_below BR4.out hb_); clear hb_; have hczd := czA BD5.out 0 (.slice A0_0 l0_0.length c0_0); have hczr := czA BR5.out 0 (.slice none 0 0); have hfzr := blk_frozen BR5.out 0))
   have HGR := Aside0.mk (show w.heap.size ≤ gr by have h2 := GR3.out; have h1 := below_size H1.out; omega)
   have BD6 := Aside0.mk (blk_drew BD5.out)
   have BR6 := Aside0.mk (blk_drew BR5.out)
   have HB6 := Aside0.mk (Below.drew HB5.out)
   clear hczd hczr hfzr
   refine start_ (n := 11) (S := fun w' => w'.cell? ⟨gb, 0, none⟩ = some (.slice A0_0 l0_0.length c0_0)) (ds := [9]) (bB 11 0) (by kernel_rfl) rfl rfl ((blk_cell BD6.out 0).trans rfl) (fun hHeld => ?_)
   generalize w5.drew = w6 at BD6 BR6 HB6 hHeld ⊢
   refine take_ (i := 0) (N := some 24) (v := ?_) (a' := ?_) (bB 11 1) rfl rfl (by kernel_rfl) (fun _ _ _ h => h) (Or.inl ⟨by rfl, ?_⟩) hHeld ?_ ?_
   rotate_left
   ·intro w' s0
    go_simp
    with_reducible rfl
   rotate_left
   ·simp only [aP, aQ, sT, sZ, sU, i64_w, i32_w]
    rfl
   refine pX 1 25 (bB 11 3) (by kernel_rfl) ?_
   refine pX 2 26 (bB 11 7) (by kernel_rfl) ?_
   refine pX 3 27 (bB 11 15) (by kernel_rfl) ?_
   refine two_ (i := 4) (j := 8) (Ni := some 28) (Nj := some 10) #[true, true, true, true, true, false, false, false, false, false, false] #[true, true, true, true, false, false, false, false, true, false, false] rfl rfl rfl rfl (by kernel_rfl) (by decide) (by decide) (fun K hK => ?_) (fun K hK => ?_)
   ·refine goes_ Try.func44 (by kernel_rfl) rfl #[.agg #[.slice A0_0 l0_0.length c0_0], .slice A1 m c1] (by rfl) rfl rfl (by simp only [mT, mC, mN, Array.map, Act.eval]; first | done | rfl | (simp; done)) ?_
    have hact := impl_DoActs.calls k A0_0 c0_0 l0_0 A1 c1 (l1.take m) p1 p2 w6 (Kd.C_below HR0.out HB6.out) HC0.out (Kd.C_below (Kd.C_take HR1.out HM.out) HB6.out) (Nat.le_trans (List.length_take_le' ..) HC1.out) HP.out
    rw [HLEN.out] at hact
    refine hact.mono ?_
    clear hact
    rintro e w7 ⟨v1, rfl, hr_, hb_⟩
    obtain ⟨Ap, cp, rfl⟩ := Kd.R_slice hr_
    have HR7 := Aside0.mk (Kd.R_lower hr_ (below_size HB6.out))
    have HB7 := Aside0.mk (below_step HB6.out hb_)
    have BD7 := Aside0.mk (blk_below BD6.out hb_)
    have BR7 := Aside0.mk (blk_below BR6.out hb_)
    clear hr_ hb_
    refine ⟨_, rfl, ?_⟩
    refine hK.out _ _ ((blk_cell BD7.out 0).trans rfl) (fun hHeld => ?_)
    clear hK K
    refine nX 28 ?_
    refine pX 5 23 (bB 11 63) (by kernel_rfl) ?_
    refine pX 6 29 (bB 11 127) (by kernel_rfl) ?_
    refine pX 7 30 (bB 11 255) (by kernel_rfl) ?_
    refine one_ (i := 8) (N := some 10) (bB 11 511) rfl rfl (by kernel_rfl) (by decide) (fun K hK => ?_)
    refine bxS 10 #[.slice none 0 0] 30 ?_
    intro go hg_ w8 hbox_ hb_
    have BO8 := Aside0.mk hbox_
    have HB8 := Aside0.mk (below_step HB7.out hb_)
    have BD8 := Aside0.mk (blk_below BD7.out hb_)
    have BR8 := Aside0.mk (blk_below BR7.out hb_)
    have HR8 := Aside0.mk (Kd.R_below HR7.out hb_)
    have HNr := Aside0.mk (show gr ≠ go by have h2 := blk_lt BR7.out; omega)
    have HGO := Aside0.mk (show w.heap.size ≤ go by have h2 := below_size HB7.out; omega)
    clear hg_ hbox_ hb_
    refine hK.out _ _ ((blk_cell BD8.out 0).trans rfl) (fun hHeld => ?_)
    clear hK K
    refine nX 10 ?_
    refine last_ (i := 9) (N := none) (bB 11 1023) rfl rfl (by kernel_rfl) (by decide) (fun K hK => ?_)
    have hs5 := czA BO8.out 0 (.slice none 0 0)
    have hfs5 := blk_frozen BO8.out 0
    refine skip_ (w1 := ?_) (by rfl) rfl ?_ ?_
    rotate_left
    ·go_simp
     rfl
    refine hK.out _ _ ?_
    clear hK K
    refine pX 10 11 (bB 11 2047) (by kernel_rfl) ?_
    refine done_ (by kernel_rfl) ?_
    have BO9 := Aside0.mk (blk_put (cs := #[.slice none 0 0]) BO8.out 0 (.slice Ap p1.length cp) rfl)
    have BR9 := Aside0.mk ((Below.heap_setCell w8 ⟨go, 0, none⟩ (.slice Ap p1.length cp) gr HNr.out).trans BR8.out)
    have HR9 := Aside0.mk (Kd.R_mono (Kd.R_far (p := ⟨go, 0, none⟩) (Kd.R_types HR8.out BO8.out (by decide)) (fun _ hk => hk.2) (.slice Ap p1.length cp)) (fun _ hk => trivial) : Kd.R k45 45 _ w.heap.size (fun _ => True) (.slice Ap p1.length cp) p1)
    have HB9 := Aside0.mk (HB8.out.setCell (p := ⟨go, 0, none⟩) HGO.out (.slice Ap p1.length cp))
    generalize w8.setCell ⟨go, 0, none⟩ (.slice Ap p1.length cp) = w9 at BO9 BR9 HR9 HB9 ⊢
    have hczo := czA BO9.out 0 (.slice Ap p1.length cp)
    have hczr := czA BR9.out 0 (.slice none 0 0)
    have hfzr := blk_frozen BR9.out 0; have h := HH.out
    by_cases hp : p2 = (m : Int)
    ·rw [if_pos hp] at h
     by_cases hc : p1.length ≤ 1099511627776 ∧ ∀ x ∈ p1, 0 ≤ x.f2 ∧ x.f2 ≤ (x.f1.size : Int)
     case neg => rw [if_neg hc] at h; cases h
     rw [if_pos hc] at h
     obtain ⟨rfl, rfl⟩ : impl_Disk_lose.lostTo l3 p1 p1.length = r1 ∧ true = r2 := by simpa using h
     clear h
     have HC := Aside0.mk hc
     subst hp
     clear hc
     have hq : ((m : Int) != (m : Int)) = false := by simp
     go_wp2_with (first | (go_at_call 83; refine (impl_Disk_lose.calls go (.slice Ap p1.length cp) p1 A3 c3 l3 w.heap.size w9 HR9.out BO9.out (fun w' hb => Kd.C_below HR3.out (HB9.out.trans hb)) HC3.out HC.out.2 HC.out.1).mono ?_; rintro e w10 ⟨rfl, hbx, hR10, hG10, hB10⟩; have HB10 := Aside0.mk (HB9.out.trans hB10); have HR10 := Aside0.mk hR10; have BR10 := Aside0.mk ((hG10.block gr (blk_lt BR9.out) (Kd.R_ne HR9.out BR9.out (by decide))).trans BR9.out); have hczv := czA hbx 0 (.slice Ap p1.length cp); have hczw := czA BR10.out 0 (.slice none 0 0); have hfzw := blk_frozen BR10.out 0; clear hbx hR10 hG10 hB10))
     refine bodyPost_ret (results_ct rfl _ _ gr 30 #[.slice Ap p1.length cp] (0, 0) _ rfl (blk_put (cs := #[.slice none 0 0]) BR10.out 0 _ rfl) Try.underlying30 rfl (by kernel_rfl)) rfl ?_
     exact ⟨_, rfl, Kd.R_mono (Kd.R_far (p := ⟨gr, 0, none⟩) (Kd.R_types HR10.out BR10.out (by decide)) (fun _ hk => hk.2) (.slice Ap p1.length cp)) (fun _ hk => trivial), HB10.out.setCell HGR.out _⟩
    ·rw [if_neg hp] at h
     obtain ⟨rfl, rfl⟩ : [] = r1 ∧ false = r2 := by simpa using h
     clear h
     have hq : (p2 != (m : Int)) = true := by simpa using hp
     go_wp2
     refine bodyPost_ret (results_ct rfl _ _ gr 30 #[.slice none 0 0] (0, 0) _ rfl (blk_put (cs := #[.slice none 0 0]) BR9.out 0 _ rfl) Try.underlying30 rfl (by kernel_rfl)) rfl ?_
     exact ⟨_, rfl, Kd.R_nil _ _ _ _ _, HB9.out.setCell HGR.out _⟩
   ·refine bxS 10 #[.slice none 0 0] 30 ?_
    intro go hg_ w7 hbox_ hb_
    have BO7 := Aside0.mk hbox_
    have HB7 := Aside0.mk (below_step HB6.out hb_)
    have BD7 := Aside0.mk (blk_below BD6.out hb_)
    have BR7 := Aside0.mk (blk_below BR6.out hb_)
    have HNr := Aside0.mk (show gr ≠ go by have h2 := blk_lt BR6.out; omega)
    have HGO := Aside0.mk (show w.heap.size ≤ go by have h2 := below_size HB6.out; omega)
    clear hg_ hbox_ hb_
    refine hK.out _ _ ((blk_cell BD7.out 0).trans rfl) (fun hHeld => ?_)
    clear hK K
    refine nX 10 ?_
    refine one_ (i := 4) (N := some 28) (bB 11 287) rfl rfl (by kernel_rfl) (by decide) (fun K hK => ?_)
    refine goes_ Try.func44 (by kernel_rfl) rfl #[.agg #[.slice A0_0 l0_0.length c0_0], .slice A1 m c1] (by rfl) rfl rfl (by simp only [mT, mC, mN, Array.map, Act.eval]; first | done | rfl | (simp; done)) ?_
    have hact := impl_DoActs.calls k A0_0 c0_0 l0_0 A1 c1 (l1.take m) p1 p2 w7 (Kd.C_below HR0.out HB7.out) HC0.out (Kd.C_below (Kd.C_take HR1.out HM.out) HB7.out) (Nat.le_trans (List.length_take_le' ..) HC1.out) HP.out
    rw [HLEN.out] at hact
    refine hact.mono ?_
    clear hact
    rintro e w8 ⟨v1, rfl, hr_, hb_⟩
    obtain ⟨Ap, cp, rfl⟩ := Kd.R_slice hr_
    have HR7 := Aside0.mk (Kd.R_lower hr_ (below_size HB7.out))
    have HR8 := HR7
    have HB8 := Aside0.mk (below_step HB7.out hb_)
    have BD8 := Aside0.mk (blk_below BD7.out hb_)
    have BR8 := Aside0.mk (blk_below BR7.out hb_)
    have BO8 := Aside0.mk (blk_below BO7.out hb_)
    clear hr_ hb_
    refine ⟨_, rfl, ?_⟩
    refine hK.out _ _ ((blk_cell BD8.out 0).trans rfl) (fun hHeld => ?_)
    clear hK K
    refine nX 28 ?_
    refine pX 5 23 (bB 11 319) (by kernel_rfl) ?_
    refine pX 6 29 (bB 11 383) (by kernel_rfl) ?_
    refine pX 7 30 (bB 11 511) (by kernel_rfl) ?_
    refine last_ (i := 9) (N := none) (bB 11 1023) rfl rfl (by kernel_rfl) (by decide) (fun K hK => ?_)
    have hs5 := czA BO8.out 0 (.slice none 0 0)
    have hfs5 := blk_frozen BO8.out 0
    refine skip_ (w1 := ?_) (by rfl) rfl ?_ ?_
    rotate_left
    ·go_simp
     rfl
    refine hK.out _ _ ?_
    clear hK K
    refine pX 10 11 (bB 11 2047) (by kernel_rfl) ?_
    refine done_ (by kernel_rfl) ?_
    have BO9 := Aside0.mk (blk_put (cs := #[.slice none 0 0]) BO8.out 0 (.slice Ap p1.length cp) rfl)
    have BR9 := Aside0.mk ((Below.heap_setCell w8 ⟨go, 0, none⟩ (.slice Ap p1.length cp) gr HNr.out).trans BR8.out)
    have HR9 := Aside0.mk (Kd.R_mono (Kd.R_far (p := ⟨go, 0, none⟩) (Kd.R_types HR8.out BO8.out (by decide)) (fun _ hk => hk.2) (.slice Ap p1.length cp)) (fun _ hk => trivial) : Kd.R k45 45 _ w.heap.size (fun _ => True) (.slice Ap p1.length cp) p1)
    have HB9 := Aside0.mk (HB8.out.setCell (p := ⟨go, 0, none⟩) HGO.out (.slice Ap p1.length cp))
    generalize w8.setCell ⟨go, 0, none⟩ (.slice Ap p1.length cp) = w9 at BO9 BR9 HR9 HB9 ⊢
    have hczo := czA BO9.out 0 (.slice Ap p1.length cp)
    have hczr := czA BR9.out 0 (.slice none 0 0)
    have hfzr := blk_frozen BR9.out 0; have h := HH.out
    by_cases hp : p2 = (m : Int)
    ·rw [if_pos hp] at h
     by_cases hc : p1.length ≤ 1099511627776 ∧ ∀ x ∈ p1, 0 ≤ x.f2 ∧ x.f2 ≤ (x.f1.size : Int)
     case neg => rw [if_neg hc] at h; cases h
     rw [if_pos hc] at h
     obtain ⟨rfl, rfl⟩ : impl_Disk_lose.lostTo l3 p1 p1.length = r1 ∧ true = r2 := by simpa using h
     clear h
     have HC := Aside0.mk hc
     subst hp
     clear hc
     have hq : ((m : Int) != (m : Int)) = false := by simp
     go_wp2_with (first | (go_at_call 83; refine (impl_Disk_lose.calls go (.slice Ap p1.length cp) p1 A3 c3 l3 w.heap.size w9 HR9.out BO9.out (fun w' hb => Kd.C_below HR3.out (HB9.out.trans hb)) HC3.out HC.out.2 HC.out.1).mono ?_; rintro e w10 ⟨rfl, hbx, hR10, hG10, hB10⟩; have HB10 := Aside0.mk (HB9.out.trans hB10); have HR10 := Aside0.mk hR10; have BR10 := Aside0.mk ((hG10.block gr (blk_lt BR9.out) (Kd.R_ne HR9.out BR9.out (by decide))).trans BR9.out); have hczv := czA hbx 0 (.slice Ap p1.length cp); have hczw := czA BR10.out 0 (.slice none 0 0); have hfzw := blk_frozen BR10.out 0; clear hbx hR10 hG10 hB10))
     refine bodyPost_ret (results_ct rfl _ _ gr 30 #[.slice Ap p1.length cp] (0, 0) _ rfl (blk_put (cs := #[.slice none 0 0]) BR10.out 0 _ rfl) Try.underlying30 rfl (by kernel_rfl)) rfl ?_
     exact ⟨_, rfl, Kd.R_mono (Kd.R_far (p := ⟨gr, 0, none⟩) (Kd.R_types HR10.out BR10.out (by decide)) (fun _ hk => hk.2) (.slice Ap p1.length cp)) (fun _ hk => trivial), HB10.out.setCell HGR.out _⟩
    ·rw [if_neg hp] at h
     obtain ⟨rfl, rfl⟩ : [] = r1 ∧ false = r2 := by simpa using h
     clear h
     have hq : (p2 != (m : Int)) = true := by simpa using hp
     go_wp2
     refine bodyPost_ret (results_ct rfl _ _ gr 30 #[.slice none 0 0] (0, 0) _ rfl (blk_put (cs := #[.slice none 0 0]) BR9.out 0 _ rfl) Try.underlying30 rfl (by kernel_rfl)) rfl ?_
     exact ⟨_, rfl, Kd.R_nil _ _ _ _ _, HB9.out.setCell HGR.out _⟩

end Go.Proofs.Ytidfhfaekdahpaa.QFnActs
