-- Own work (wip/turnprint.py over the kit's print).
import Derived.Test.YtidfhfaekdahpaaQFnActsx0
import Derived.Test.YtidfhfaekdahpaaQFnActsx3
import Derived.Test.YtidfhfaekdahpaaQFnActsx4
import Derived.Test.YtidfhfaekdahpaaQFnActsx5
namespace Go.Proofs.Ytidfhfaekdahpaa.QFnActs
open Go.RowKit Go.Proofs.YtidfhfaekdahpaaW.PrintWords Go.Proofs.YtidfhfaekdahpaaW.PrintLast Go.Proofs.YtidfhfaekdahpaaW.PrintMore
attribute [local go_sem] max2_int min2_int max_two min_two max_three min_three max_four min_four   -- for this text's walks alone
set_option linter.unusedVariables false
set_option linter.unusedSimpArgs false

/-! ### impl_DoAct: function 40 (given by the session) -/
theorem impl_DoAct.size30 : (Try.prog.info? 30).map (·.size) = some 1 := by kernel_rfl
theorem impl_DoAct.gkeep {w w' : World} {g k : Nat} {x : Obj} (hg : w.grownBy w' (some g)) (hk : w.heap[k]? = some x) (hne : k ≠ g) : w'.heap[k]? = some x := (hg.block k (blk_lt hk) (fun e => hne (by injection e))).trans hk
def impl_DoAct.f (k : Nat) (l0_0 : List S45) (a1_0 : Int) (a1_1 a1_2 a1_3 : ByteArray) : Option (List S45 × Bool) :=
 if l0_0.length ≤ 1099511627775 then (impl_DiskOk.f k l0_0).bind fun t => if t = true then ((impl_Disk_do.doF a1_0 a1_1 a1_2 a1_3 l0_0).bind fun p => if p.2 = true then some (p.1, true) else some ([], false)) else some ([], false) else none
theorem impl_DoAct.mono : ∀ a0 a1 a2 a3 a4 k, LeO (impl_DoAct.f k a0 a1 a2 a3 a4) (impl_DoAct.f (k + 1) a0 a1 a2 a3 a4) := by
 intro a0 a1 a2 a3 a4 k
 unfold impl_DoAct.f
 split
 ·exact LeO.bind (impl_DiskOk.mono _ _) (fun _ => LeO.refl _)
 ·exact LeO.refl _
set_option maxHeartbeats 4000000 in
set_option maxRecDepth 100000 in
theorem impl_DoAct.calls (k : Nat) (A0_0 : Option Addr) (c0_0 : Nat) (l0_0 : List S45) (a1_0 : Int) (a1_1 : ByteArray) (a1_2 : ByteArray) (a1_3 : ByteArray) (r1 : List S45) (r2 : Bool) (w : World) (hr0_0 : Kd.C k45 w A0_0 l0_0.length l0_0) (hc0_0 : l0_0.length ≤ c0_0) (h : impl_DoAct.f k l0_0 a1_0 a1_1 a1_2 a1_3 = some (r1, r2)) :
 Calls Try.prog 40 #[.agg #[.slice A0_0 l0_0.length c0_0], .agg #[.int .i64 a1_0, .string a1_1, .string a1_2, .string a1_3]] w fun e w' => ∃ v0_ : Value, e = .returned (.tuple #[.agg #[v0_], .bool r2]) ∧ Kd.R k45 45 w' w.heap.size (fun _ => True) v0_ r1 ∧ Below w.heap.size w w' := by
 have HR0 := Aside0.mk hr0_0
 have HC0 := Aside0.mk hc0_0
 clear hr0_0 hc0_0
 unfold impl_DoAct.f at h
 by_cases hl : l0_0.length ≤ 1099511627775
 case neg => rw [if_neg hl] at h; cases h
 rw [if_pos hl] at h
 have HL := Aside0.mk hl
 clear hl
 have HF : Aside0 (impl_copyDisk.f l0_0 = some l0_0) := ⟨by
  have h1 := HL.out
  have h2 : l0_0.length ≤ 1099511627776 := by omega
  simp [impl_copyDisk.f, impl_File_119.f, h2]⟩
 obtain ⟨t, hA, H⟩ := Option.bind_eq_some_iff.mp h
 clear h
 have HA := Aside0.mk hA
 clear hA
 cases t with
 | false =>
  obtain ⟨rfl, rfl⟩ : [] = r1 ∧ false = r2 := by simpa using H
  clear H
  go_enter Try.func40, Try.ntmps40
  go_wp2_with (first | ((with_reducible refine gate_dst (N := 2) rfl ?_); refine bxE 2 #[.slice A0_0 l0_0.length c0_0] 30 ?_; intro gb hg_ w1 hbox_ hb_; have H1 := Aside0.mk hb_; have BD1 := Aside0.mk hbox_; have GB1 := Aside0.mk hg_; clear hb_ hbox_ hg_; have hczd := czA BD1.out 0 (.slice A0_0 l0_0.length c0_0)) | ((with_reducible refine gate_dst (N := 3) rfl ?_); refine bxE 3 #[.int .i64 a1_0, .string a1_1, .string a1_2, .string a1_3] 55 ?_; intro ga hg_ w2 hbox_ hb_; have H2 := Aside0.mk hb_; have BA2 := Aside0.mk hbox_; have GA2 := Aside0.mk hg_; clear hb_ hbox_ hg_; have BD2 := Aside0.mk (blk_below BD1.out H2.out); have HB2 := Aside0.mk (below_step H1.out H2.out); have hczd := czA BD2.out 0 (.slice A0_0 l0_0.length c0_0); have hca0 := czA BA2.out 0 (.int .i64 a1_0); have hca1 := czA BA2.out 1 (.string a1_1); have hca2 := czA BA2.out 2 (.string a1_2); have hca3 := czA BA2.out 3 (.string a1_3)) | ((with_reducible refine gate_dst (N := 4) rfl ?_); refine bxE 4 #[.slice none 0 0] 30 ?_; intro gr hg_ w3 hbox_ hb_; have H3 := Aside0.mk hb_; have BR3 := Aside0.mk hbox_; have GR3 := Aside0.mk hg_; clear hb_ hbox_ hg_; have BD3 := Aside0.mk (blk_below BD2.out H3.out); have BA3 := Aside0.mk (blk_below BA2.out H3.out); have HB3 := Aside0.mk (below_step HB2.out H3.out); have hczd := czA BD3.out 0 (.slice A0_0 l0_0.length c0_0); have hca0 := czA BA3.out 0 (.int .i64 a1_0); have hca1 := czA BA3.out 1 (.string a1_1); have hca2 := czA BA3.out 2 (.string a1_2); have hca3 := czA BA3.out 3 (.string a1_3); have hczr := czA BR3.out 0 (.slice none 0 0); have hfzr := blk_frozen BR3.out 0) | (go_at_call 82; refine (impl_copyDisk.calls _ _ l0_0 l0_0 _ (Kd.C_below HR0.out HB3.out) HC0.out HF.out).mono ?_; rintro e w4 ⟨v1, rfl, ho_, hb_⟩; have HO4 := Aside0.mk (Kd.R_lower ho_ (below_size HB3.out)); have HB4 := Aside0.mk (below_step HB3.out hb_); have BD4 := Aside0.mk (blk_below BD3.out hb_); have BA4 := Aside0.mk (blk_below BA3.out hb_); have BR4 := Aside0.mk (blk_below BR3.out hb_); have HS4 := Aside0.mk (show w3.heap.size ≤ w4.heap.size from hb_.size); clear ho_ hb_; obtain ⟨Ao, co, eo⟩ := Kd.R_slice HO4.out; subst eo) | ((with_reducible refine gate_dst (N := 6) rfl ?_); refine bxE 6 #[.slice none 0 0] 30 ?_; intro go hg_ w5 hbox_ hb_; have H5 := Aside0.mk hb_; have BO5 := Aside0.mk hbox_; have GO5 := Aside0.mk hg_; clear hb_ hbox_ hg_; have BD5 := Aside0.mk (blk_below BD4.out H5.out); have BA5 := Aside0.mk (blk_below BA4.out H5.out); have BR5 := Aside0.mk (blk_below BR4.out H5.out); have HB5 := Aside0.mk (below_step HB4.out H5.out); have HO5 := Aside0.mk (Kd.R_below HO4.out H5.out); have HNd := Aside0.mk (show gb ≠ go by have h1 := GO5.out; have h2 := blk_lt BD4.out; omega); have HNr := Aside0.mk (show gr ≠ go by have h1 := GO5.out; have h2 := blk_lt BR4.out; omega)) | (refine store_blk rfl rfl 30 (.tmp 6) (.tmp 8) rfl (g := go) (off := 0) (e := 30) (cur := #[.slice none 0 0]) (.agg #[.slice Ao l0_0.length co]) [.slice Ao l0_0.length co] ?sp ?sx rfl impl_DoAct.size30 BO5.out (by simp) (fun q hq => by simp at hq; subst hq; rfl) ?_; (case sp => rfl); (case sx => first | rfl | (simp [Act.eval]; done)); intro w6 cur_ h_ hl_ hg_; obtain rfl := impl_Disk_do.cur_eq hl_; have BO6 : Aside0 (w6.heap[go]? = some (.cells #[.slice Ao l0_0.length co] 30 (0, 0))) := ⟨h_⟩; have BD6 := Aside0.mk (impl_DoAct.gkeep hg_ BD5.out HNd.out); have BR6 := Aside0.mk (impl_DoAct.gkeep hg_ BR5.out HNr.out); have BA6 := Aside0.mk (impl_DoAct.gkeep hg_ BA5.out (fun e => by have h1 := BA5.out; rw [e, BO5.out] at h1; simp at h1)); have HO6 := Aside0.mk (impl_Disk_do.R_blk HO5.out (fun g hg2 => by obtain ⟨cells, hcells⟩ := Kd.R_typed HO5.out g hg2; exact hg_.block g (blk_lt hcells) (fun e => Kd.R_ne HO5.out BO5.out (by decide) (by rw [hg2, ← e])))); have HB6 := Aside0.mk (HB5.out.grown hg_ (below_size HB5.out) (fun k hk => by injection hk with hk; rw [← hk]; have h1 := GO5.out; have h2 := below_size HB4.out; omega)); clear h_ hl_ hg_; have hczd := czA BD6.out 0 (.slice A0_0 l0_0.length c0_0); have hca0 := czA BA6.out 0 (.int .i64 a1_0); have hca1 := czA BA6.out 1 (.string a1_1); have hca2 := czA BA6.out 2 (.string a1_2); have hca3 := czA BA6.out 3 (.string a1_3); have hczr := czA BR6.out 0 (.slice none 0 0); have hfzr := blk_frozen BR6.out 0; have hczo := czA BO6.out 0 (.slice Ao l0_0.length co); have hfzo := blk_frozen BO6.out 0) | (go_at_call 21; refine (impl_DiskOk.calls k _ _ l0_0 _ _ (Kd.C_below HR0.out HB6.out) HC0.out HA.out).mono ?_; rintro e w7 ⟨rfl, hb_⟩; have HB7 := Aside0.mk (below_step HB6.out hb_); have BD7 := Aside0.mk (blk_below BD6.out hb_); have BA7 := Aside0.mk (blk_below BA6.out hb_); have BR7 := Aside0.mk (blk_below BR6.out hb_); have BO7 := Aside0.mk (blk_below BO6.out hb_); have HO7 := Aside0.mk (Kd.R_below HO6.out hb_); clear hb_; have hczd := czA BD7.out 0 (.slice A0_0 l0_0.length c0_0); have hca0 := czA BA7.out 0 (.int .i64 a1_0); have hca1 := czA BA7.out 1 (.string a1_1); have hca2 := czA BA7.out 2 (.string a1_2); have hca3 := czA BA7.out 3 (.string a1_3); have hczr := czA BR7.out 0 (.slice none 0 0); have hfzr := blk_frozen BR7.out 0; have hczo := czA BO7.out 0 (.slice Ao l0_0.length co); have hfzo := blk_frozen BO7.out 0))
  refine bodyPost_ret (results_ct rfl _ _ gr 30 #[.slice none 0 0] (0, 0) _ rfl (blk_put (cs := #[.slice none 0 0]) BR7.out 0 _ rfl) Try.underlying30 rfl (by kernel_rfl)) rfl ?_
  exact ⟨_, rfl, Kd.R_nil _ _ _ _ _, HB7.out.setCell (by have h2 := GR3.out; have h1 := below_size HB2.out; show w.heap.size ≤ gr; omega) _⟩
 | true =>
  rw [if_pos rfl] at H
  obtain ⟨⟨p1, p2⟩, hP, H⟩ := Option.bind_eq_some_iff.mp H
  have HP := Aside0.mk hP
  have HH := Aside0.mk H
  clear hP H
  go_enter Try.func40, Try.ntmps40
  go_wp2_with (first | ((with_reducible refine gate_dst (N := 2) rfl ?_); refine bxE 2 #[.slice A0_0 l0_0.length c0_0] 30 ?_; intro gb hg_ w1 hbox_ hb_; have H1 := Aside0.mk hb_; have BD1 := Aside0.mk hbox_; have GB1 := Aside0.mk hg_; clear hb_ hbox_ hg_; have hczd := czA BD1.out 0 (.slice A0_0 l0_0.length c0_0)) | ((with_reducible refine gate_dst (N := 3) rfl ?_); refine bxE 3 #[.int .i64 a1_0, .string a1_1, .string a1_2, .string a1_3] 55 ?_; intro ga hg_ w2 hbox_ hb_; have H2 := Aside0.mk hb_; have BA2 := Aside0.mk hbox_; have GA2 := Aside0.mk hg_; clear hb_ hbox_ hg_; have BD2 := Aside0.mk (blk_below BD1.out H2.out); have HB2 := Aside0.mk (below_step H1.out H2.out); have hczd := czA BD2.out 0 (.slice A0_0 l0_0.length c0_0); have hca0 := czA BA2.out 0 (.int .i64 a1_0); have hca1 := czA BA2.out 1 (.string a1_1); have hca2 := czA BA2.out 2 (.string a1_2); have hca3 := czA BA2.out 3 (.string a1_3)) | ((with_reducible refine gate_dst (N := 4) rfl ?_); refine bxE 4 #[.slice none 0 0] 30 ?_; intro gr hg_ w3 hbox_ hb_; have H3 := Aside0.mk hb_; have BR3 := Aside0.mk hbox_; have GR3 := Aside0.mk hg_; clear hb_ hbox_ hg_; have BD3 := Aside0.mk (blk_below BD2.out H3.out); have BA3 := Aside0.mk (blk_below BA2.out H3.out); have HB3 := Aside0.mk (below_step HB2.out H3.out); have hczd := czA BD3.out 0 (.slice A0_0 l0_0.length c0_0); have hca0 := czA BA3.out 0 (.int .i64 a1_0); have hca1 := czA BA3.out 1 (.string a1_1); have hca2 := czA BA3.out 2 (.string a1_2); have hca3 := czA BA3.out 3 (.string a1_3); have hczr := czA BR3.out 0 (.slice none 0 0); have hfzr := blk_frozen BR3.out 0) | (go_at_call 82; refine (impl_copyDisk.calls _ _ l0_0 l0_0 _ (Kd.C_below HR0.out HB3.out) HC0.out HF.out).mono ?_; rintro e w4 ⟨v1, rfl, ho_, hb_⟩; have HO4 := Aside0.mk (Kd.R_lower ho_ (below_size HB3.out)); have HB4 := Aside0.mk (below_step HB3.out hb_); have BD4 := Aside0.mk (blk_below BD3.out hb_); have BA4 := Aside0.mk (blk_below BA3.out hb_); have BR4 := Aside0.mk (blk_below BR3.out hb_); have HS4 := Aside0.mk (show w3.heap.size ≤ w4.heap.size from hb_.size); clear ho_ hb_; obtain ⟨Ao, co, eo⟩ := Kd.R_slice HO4.out; subst eo) | ((with_reducible refine gate_dst (N := 6) rfl ?_); refine bxE 6 #[.slice none 0 0] 30 ?_; intro go hg_ w5 hbox_ hb_; have H5 := Aside0.mk hb_; have BO5 := Aside0.mk hbox_; have GO5 := Aside0.mk hg_; clear hb_ hbox_ hg_; have BD5 := Aside0.mk (blk_below BD4.out H5.out); have BA5 := Aside0.mk (blk_below BA4.out H5.out); have BR5 := Aside0.mk (blk_below BR4.out H5.out); have HB5 := Aside0.mk (below_step HB4.out H5.out); have HO5 := Aside0.mk (Kd.R_below HO4.out H5.out); have HNd := Aside0.mk (show gb ≠ go by have h1 := GO5.out; have h2 := blk_lt BD4.out; omega); have HNr := Aside0.mk (show gr ≠ go by have h1 := GO5.out; have h2 := blk_lt BR4.out; omega)) | (refine store_blk rfl rfl 30 (.tmp 6) (.tmp 8) rfl (g := go) (off := 0) (e := 30) (cur := #[.slice none 0 0]) (.agg #[.slice Ao l0_0.length co]) [.slice Ao l0_0.length co] ?sp ?sx rfl impl_DoAct.size30 BO5.out (by simp) (fun q hq => by simp at hq; subst hq; rfl) ?_; (case sp => rfl); (case sx => first | rfl | (simp [Act.eval]; done)); intro w6 cur_ h_ hl_ hg_; obtain rfl := impl_Disk_do.cur_eq hl_; have BO6 : Aside0 (w6.heap[go]? = some (.cells #[.slice Ao l0_0.length co] 30 (0, 0))) := ⟨h_⟩; have BD6 := Aside0.mk (impl_DoAct.gkeep hg_ BD5.out HNd.out); have BR6 := Aside0.mk (impl_DoAct.gkeep hg_ BR5.out HNr.out); have BA6 := Aside0.mk (impl_DoAct.gkeep hg_ BA5.out (fun e => by have h1 := BA5.out; rw [e, BO5.out] at h1; simp at h1)); have HO6 := Aside0.mk (impl_Disk_do.R_blk HO5.out (fun g hg2 => by obtain ⟨cells, hcells⟩ := Kd.R_typed HO5.out g hg2; exact hg_.block g (blk_lt hcells) (fun e => Kd.R_ne HO5.out BO5.out (by decide) (by rw [hg2, ← e])))); have HB6 := Aside0.mk (HB5.out.grown hg_ (below_size HB5.out) (fun k hk => by injection hk with hk; rw [← hk]; have h1 := GO5.out; have h2 := below_size HB4.out; omega)); clear h_ hl_ hg_; have hczd := czA BD6.out 0 (.slice A0_0 l0_0.length c0_0); have hca0 := czA BA6.out 0 (.int .i64 a1_0); have hca1 := czA BA6.out 1 (.string a1_1); have hca2 := czA BA6.out 2 (.string a1_2); have hca3 := czA BA6.out 3 (.string a1_3); have hczr := czA BR6.out 0 (.slice none 0 0); have hfzr := blk_frozen BR6.out 0; have hczo := czA BO6.out 0 (.slice Ao l0_0.length co); have hfzo := blk_frozen BO6.out 0) | (go_at_call 21; refine (impl_DiskOk.calls k _ _ l0_0 _ _ (Kd.C_below HR0.out HB6.out) HC0.out HA.out).mono ?_; rintro e w7 ⟨rfl, hb_⟩; have HB7 := Aside0.mk (below_step HB6.out hb_); have BD7 := Aside0.mk (blk_below BD6.out hb_); have BA7 := Aside0.mk (blk_below BA6.out hb_); have BR7 := Aside0.mk (blk_below BR6.out hb_); have BO7 := Aside0.mk (blk_below BO6.out hb_); have HO7 := Aside0.mk (Kd.R_below HO6.out hb_); clear hb_; have hczd := czA BD7.out 0 (.slice A0_0 l0_0.length c0_0); have hca0 := czA BA7.out 0 (.int .i64 a1_0); have hca1 := czA BA7.out 1 (.string a1_1); have hca2 := czA BA7.out 2 (.string a1_2); have hca3 := czA BA7.out 3 (.string a1_3); have hczr := czA BR7.out 0 (.slice none 0 0); have hfzr := blk_frozen BR7.out 0; have hczo := czA BO7.out 0 (.slice Ao l0_0.length co); have hfzo := blk_frozen BO7.out 0))
  go_at_call 87
  refine (impl_Disk_do.calls go w.heap.size Ao co l0_0 a1_0 a1_1 a1_2 a1_3 p1 p2 w7 HO7.out BO7.out (below_size HB7.out) HP.out).mono ?_
  rintro e w8 ⟨rfl, v8, hb8, hr8, hf8⟩
  obtain ⟨A8, c8, rfl⟩ := Kd.R_slice hr8
  have hgo : w.heap.size ≤ go := by have h1 := GO5.out; have h2 := below_size HB4.out; omega
  have hgr : w.heap.size ≤ gr := by have h2 := GR3.out; have h1 := below_size HB2.out; omega
  have HB8 := Aside0.mk (HB7.out.trans (impl_Disk_put.FrS.below hf8 (fun k hk => by
   rcases hk with hk | hk
   ·rw [hk]; exact hgo
   ·exact Kd.R_base HO7.out k hk.symm) (below_size HB7.out)))
  have HR8 := Aside0.mk hr8
  have BR8 := Aside0.mk ((hf8.block gr (blk_lt BR7.out) (fun hk => by
   rcases hk with hk | hk
   ·exact HNr.out hk
   ·exact Kd.R_ne HO7.out BR7.out (by decide) hk)).trans BR7.out)
  have hczo := czA hb8 0 (.slice A8 p1.length c8)
  have hczr := czA BR8.out 0 (.slice none 0 0)
  have hfzr := blk_frozen BR8.out 0
  clear hb8 hr8 hf8 hgo
  have h := HH.out
  cases p2 with
  | false =>
   obtain ⟨rfl, rfl⟩ : [] = r1 ∧ false = r2 := by simpa using h
   clear h
   go_wp2
   refine bodyPost_ret (results_ct rfl _ _ gr 30 #[.slice none 0 0] (0, 0) _ rfl (blk_put (cs := #[.slice none 0 0]) BR8.out 0 _ rfl) Try.underlying30 rfl (by kernel_rfl)) rfl ?_
   exact ⟨_, rfl, Kd.R_nil _ _ _ _ _, HB8.out.setCell (by have h2 := GR3.out; have h1 := below_size HB2.out; show w.heap.size ≤ gr; omega) _⟩
  | true =>
   obtain ⟨rfl, rfl⟩ : p1 = r1 ∧ true = r2 := by simpa using h
   clear h
   go_wp2
   refine bodyPost_ret (results_ct rfl _ _ gr 30 #[.slice A8 p1.length c8] (0, 0) _ rfl (blk_put (cs := #[.slice none 0 0]) BR8.out 0 _ rfl) Try.underlying30 rfl (by kernel_rfl)) rfl ?_
   exact ⟨_, rfl, Kd.R_mono (Kd.R_far (p := ⟨gr, 0, none⟩) (Kd.R_types HR8.out BR8.out (by decide)) (fun _ hk => hk.2) (.slice A8 p1.length c8)) (fun _ hk => trivial), HB8.out.setCell hgr _⟩

/-! ### spec_l01In: function 74 -/
def spec_l01In.f (a0 : Int) (a1 : Int) (a2 : Int) : Option (Bool) := if a0 ≥ a1 then (some (decide (a0 ≤ a2))) else (some false)
set_option maxHeartbeats 8000000 in
set_option maxRecDepth 100000 in
theorem spec_l01In.calls (a0 : Int) (a1 : Int) (a2 : Int) (r : Bool) (w : World) (h : spec_l01In.f a0 a1 a2 = some r) :
 Calls Try.prog 74 #[.int .i64 a0, .int .i64 a1, .int .i64 a2] w fun e w' => e = .returned (.bool r) ∧ Drawn0 w w' := by
 have H : (if a0 ≥ a1 then (some (decide (a0 ≤ a2))) else (some false)) = some r := h
 clear h
 by_cases c4 : a0 ≥ a1
 ·rw [if_pos c4] at H
  have c4b0 : decide (a1 ≤ a0) = true := decide_eq_true c4
  clear c4
  obtain rfl := Option.some.inj H
  go_enter Try.func74, Try.ntmps74
  go_wp2
  go_ret
  exact ⟨by first | rfl | (simp; done) | (simp [*]; done), by repeat (first | exact Drawn0.refl _ | apply Drawn0.step)⟩
 ·rw [if_neg c4] at H
  have c4b0 : decide (a1 ≤ a0) = false := decide_eq_false c4
  clear c4
  obtain rfl := Option.some.inj H
  go_enter Try.func74, Try.ntmps74
  go_wp2
  go_ret
  exact ⟨by first | rfl | (simp; done) | (simp [*]; done), by repeat (first | exact Drawn0.refl _ | apply Drawn0.step)⟩

/-! ### spec_l03Name: function 73 -/
def spec_l03Name.f (a0 : ByteArray) : Option (Bool) := (spec_l01In.f (a0.size : Int) 1 8).bind fun t121 => (some t121)
set_option maxHeartbeats 8000000 in
set_option maxRecDepth 100000 in
theorem spec_l03Name.calls (a0 : ByteArray) (r : Bool) (w : World) (h : spec_l03Name.f a0 = some r) :
 Calls Try.prog 73 #[.string a0] w fun e w' => e = .returned (.bool r) ∧ Drawn0 w w' := by
 have H : ((spec_l01In.f (a0.size : Int) 1 8).bind fun t121 => (some t121)) = some r := h
 clear h
 replace H := Option.bind_eq_some_iff.mp H
 obtain ⟨t121, A20, H⟩ := H
 replace H : (some t121) = some r := H
 have A2 := aM A20
 clear A20
 obtain rfl := Option.some.inj H
 go_enter Try.func73, Try.ntmps73
 go_wp2_with (first | ((with_reducible refine gate_callee (f := 74) rfl ?_); refine gL (some 5) Try.func74 #[.int .i64 (a0.size : Int), .int .i64 1, .int .i64 8] ?_; (with_reducible refine (spec_l01In.calls (a0.size : Int) 1 8 t121 _ A2.out).mono ?_); rintro e w' ⟨rfl, ⟨nd, rfl⟩⟩; refine ⟨_, rfl, ?_⟩))
 go_ret
 exact ⟨by first | rfl | (simp; done) | (simp [*]; done), by repeat (first | exact Drawn0.refl _ | apply Drawn0.step)⟩

end Go.Proofs.Ytidfhfaekdahpaa.QFnActs
