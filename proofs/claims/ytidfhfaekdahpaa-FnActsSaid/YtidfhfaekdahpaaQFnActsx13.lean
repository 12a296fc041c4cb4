-- Own work (wip/turnprint.py over the kit's print).
import Derived.Test.YtidfhfaekdahpaaQFnActsx0
import Derived.Test.YtidfhfaekdahpaaQFnActsx3
import Derived.Test.YtidfhfaekdahpaaQFnActsx4
import Derived.Test.YtidfhfaekdahpaaQFnActsx5
namespace Go.Proofs.Ytidfhfaekdahpaa.QFnActs
open Go.RowKit Go.Proofs.YtidfhfaekdahpaaW.PrintWords Go.Proofs.YtidfhfaekdahpaaW.PrintLast Go.Proofs.YtidfhfaekdahpaaW.PrintMore
attribute [local go_sem] max2_int min2_int max_two min_two max_three min_three max_four min_four   -- for this text's walks alone
set_option linter.unusedVariables false
set_option linter.unusedSimpArgs false

/-! ### impl_DoActs: function 44 (given by the session) -/
theorem impl_DoActs.size30 : (Try.prog.info? 30).map (·.size) = some 1 := by kernel_rfl
theorem impl_DoActs.size55 : (Try.prog.info? 55).map (·.size) = some 4 := by kernel_rfl
theorem impl_DoActs.gkeep {w w' : World} {g k : Nat} {x : Obj} (hg : w.grownBy w' (some g)) (hk : w.heap[k]? = some x) (hne : k ≠ g) : w'.heap[k]? = some x := (hg.block k (blk_lt hk) (fun e => hne (by injection e))).trans hk
def impl_DoActs.goF : List S55 → Nat → List S45 → Option (List S45 × Int)
 | [], n, l => some (l, (n : Int))
 | a :: q, n, l => (impl_Disk_do.doF a.f0 a.f1 a.f2 a.f3 l).bind fun p => if p.2 = true then impl_DoActs.goF q (n + 1) p.1 else some (l, (n : Int))
def impl_DoActs.f (k : Nat) (l0_0 : List S45) (l1 : List S55) : Option (List S45 × Int) :=
 if l0_0.length ≤ 1099511627775 ∧ l1.length ≤ 4611686018427387904 then (impl_DiskOk.f k l0_0).bind fun t => if t = true then impl_DoActs.goF l1 0 l0_0 else some (l0_0, 0) else none
theorem impl_DoActs.mono : ∀ a0 a1 k, LeO (impl_DoActs.f k a0 a1) (impl_DoActs.f (k + 1) a0 a1) := by
 intro a0 a1 k
 unfold impl_DoActs.f
 split
 ·exact LeO.bind (impl_DiskOk.mono _ _) (fun _ => LeO.refl _)
 ·exact LeO.refl _
theorem impl_DoActs.goF_at {l1 : List S55} {i : Nat} {n : Nat} {l : List S45} (h : i < l1.length) : impl_DoActs.goF (l1.drop i) n l = (impl_Disk_do.doF (l1.getD i z55).f0 (l1.getD i z55).f1 (l1.getD i z55).f2 (l1.getD i z55).f3 l).bind fun p => if p.2 = true then impl_DoActs.goF (l1.drop (i + 1)) (n + 1) p.1 else some (l, (n : Int)) := by
 have e : l1.drop i = l1.getD i z55 :: l1.drop (i + 1) := by
  rw [List.drop_eq_getElem_cons h, List.getD_eq_getElem?_getD, List.getElem?_eq_getElem h]
  rfl
 rw [e, impl_DoActs.goF]
theorem impl_DoActs.doF_len {a : Int} {b c d : ByteArray} {l : List S45} {p : List S45 × Bool} (h : impl_Disk_do.doF a b c d l = some p) : l.length ≤ 1099511627775 := by
 unfold impl_Disk_do.doF at h
 split at h
 ·assumption
 ·cases h
set_option maxHeartbeats 4000000 in
set_option maxRecDepth 100000 in
theorem impl_DoActs.calls (k : Nat) (A0_0 : Option Addr) (c0_0 : Nat) (l0_0 : List S45) (A1 : Option Addr) (c1 : Nat) (l1 : List S55) (r1 : List S45) (r2 : Int) (w : World) (hr0_0 : Kd.C k45 w A0_0 l0_0.length l0_0) (hc0_0 : l0_0.length ≤ c0_0) (hr1 : Kd.C k55 w A1 l1.length l1) (hc1 : l1.length ≤ c1) (h : impl_DoActs.f k l0_0 l1 = some (r1, r2)) :
 Calls Try.prog 44 #[.agg #[.slice A0_0 l0_0.length c0_0], .slice A1 l1.length c1] w fun e w' => ∃ v0_ : Value, e = .returned (.tuple #[.agg #[v0_], .int .i64 r2]) ∧ Kd.R k45 45 w' w.heap.size (fun _ => True) v0_ r1 ∧ Below w.heap.size w w' := by
 have HR0 := Aside0.mk hr0_0
 have HC0 := Aside0.mk hc0_0
 have HR1 := Aside0.mk hr1
 clear hr0_0 hc0_0 hr1
 unfold impl_DoActs.f at h
 by_cases hl : l0_0.length ≤ 1099511627775 ∧ l1.length ≤ 4611686018427387904
 case neg => rw [if_neg hl] at h; cases h
 rw [if_pos hl] at h
 have HL := Aside0.mk hl
 clear hl
 have HF : Aside0 (impl_copyDisk.f l0_0 = some l0_0) := ⟨by
  have h1 := HL.out.1
  have h2 : l0_0.length ≤ 1099511627776 := by omega
  simp [impl_copyDisk.f, impl_File_119.f, h2]⟩
 obtain ⟨t, hA, H⟩ := Option.bind_eq_some_iff.mp h
 clear h
 have HA := Aside0.mk hA
 clear hA
 cases t with
 | false =>
  obtain ⟨rfl, rfl⟩ : l0_0 = r1 ∧ 0 = r2 := by simpa using H
  clear H
  go_enter Try.func44, Try.ntmps44
  go_wp2_with (first | ((with_reducible refine gate_dst (N := 2) rfl ?_); refine bxE 2 #[.slice A0_0 l0_0.length c0_0] 30 ?_; intro gb hg_ w1 hbox_ hb_; have H1 := Aside0.mk hb_; have BD1 := Aside0.mk hbox_; have GB1 := Aside0.mk hg_; clear hb_ hbox_ hg_; have hczd := czA BD1.out 0 (.slice A0_0 l0_0.length c0_0)) | ((with_reducible refine gate_dst (N := 4) rfl ?_); refine bxE 4 #[.slice none 0 0] 30 ?_; intro gr hg_ w3 hbox_ hb_; have H3 := Aside0.mk hb_; have BR3 := Aside0.mk hbox_; have GR3 := Aside0.mk hg_; clear hb_ hbox_ hg_; have BD3 := Aside0.mk (blk_below BD1.out H3.out); have HB3 := Aside0.mk (below_step H1.out H3.out); have hczd := czA BD3.out 0 (.slice A0_0 l0_0.length c0_0); have hczr := czA BR3.out 0 (.slice none 0 0); have hfzr := blk_frozen BR3.out 0) | (go_at_call 82; refine (impl_copyDisk.calls _ _ l0_0 l0_0 _ (Kd.C_below HR0.out HB3.out) HC0.out HF.out).mono ?_; rintro e w4 ⟨v1, rfl, ho_, hb_⟩; have HO4 := Aside0.mk (Kd.R_lower ho_ (below_size HB3.out)); have HB4 := Aside0.mk (below_step HB3.out hb_); have BD4 := Aside0.mk (blk_below BD3.out hb_); have BR4 := Aside0.mk (blk_below BR3.out hb_); clear ho_ hb_; obtain ⟨Ao, co, eo⟩ := Kd.R_slice HO4.out; subst eo) | ((with_reducible refine gate_dst (N := 6) rfl ?_); refine bxE 6 #[.slice none 0 0] 30 ?_; intro go hg_ w5 hbox_ hb_; have H5 := Aside0.mk hb_; have BO5 := Aside0.mk hbox_; have GO5 := Aside0.mk hg_; clear hb_ hbox_ hg_; have BD5 := Aside0.mk (blk_below BD4.out H5.out); have BR5 := Aside0.mk (blk_below BR4.out H5.out); have HB5 := Aside0.mk (below_step HB4.out H5.out); have HO5 := Aside0.mk (Kd.R_below HO4.out H5.out); have HNd := Aside0.mk (show gb ≠ go by have h1 := GO5.out; have h2 := blk_lt BD4.out; omega); have HNr := Aside0.mk (show gr ≠ go by have h1 := GO5.out; have h2 := blk_lt BR4.out; omega); have HGO := Aside0.mk (show w.heap.size ≤ go by have h1 := GO5.out; have h2 := below_size HB4.out; omega)) | (refine store_blk rfl rfl 30 (.tmp 6) (.tmp 11) rfl (g := go) (off := 0) (e := 30) (cur := #[.slice none 0 0]) (.agg #[.slice Ao l0_0.length co]) [.slice Ao l0_0.length co] ?sp ?sx rfl impl_DoActs.size30 BO5.out (by simp) (fun q hq => by simp at hq; subst hq; rfl) ?_; (case sp => rfl); (case sx => first | rfl | (simp [Act.eval]; done)); intro w6 cur_ h_ hl_ hg_; obtain rfl := impl_Disk_do.cur_eq hl_; have BO6 : Aside0 (w6.heap[go]? = some (.cells #[.slice Ao l0_0.length co] 30 (0, 0))) := ⟨h_⟩; have BD6 := Aside0.mk (impl_DoActs.gkeep hg_ BD5.out HNd.out); have BR6 := Aside0.mk (impl_DoActs.gkeep hg_ BR5.out HNr.out); have HO6 := Aside0.mk (impl_Disk_do.R_blk HO5.out (fun g hg2 => by obtain ⟨cells, hcells⟩ := Kd.R_typed HO5.out g hg2; exact hg_.block g (blk_lt hcells) (fun e => Kd.R_ne HO5.out BO5.out (by decide) (by rw [hg2, ← e])))); have HB6 := Aside0.mk (HB5.out.grown hg_ (below_size HB5.out) (fun k hk => by injection hk with hk; rw [← hk]; exact HGO.out)); clear h_ hl_ hg_; have hczd := czA BD6.out 0 (.slice A0_0 l0_0.length c0_0); have hczr := czA BR6.out 0 (.slice none 0 0); have hfzr := blk_frozen BR6.out 0; have hczo := czA BO6.out 0 (.slice Ao l0_0.length co); have hfzo := blk_frozen BO6.out 0) | (go_at_call 21; refine (impl_DiskOk.calls k _ _ l0_0 _ _ (Kd.C_below HR0.out HB6.out) HC0.out HA.out).mono ?_; rintro e w7 ⟨rfl, hb_⟩; have HB7 := Aside0.mk (below_step HB6.out hb_); have BR7 := Aside0.mk (blk_below BR6.out hb_); have BO7 := Aside0.mk (blk_below BO6.out hb_); have HO7 := Aside0.mk (Kd.R_below HO6.out hb_); clear hb_ hczd; have hczr := czA BR7.out 0 (.slice none 0 0); have hfzr := blk_frozen BR7.out 0; have hczo := czA BO7.out 0 (.slice Ao l0_0.length co); have hfzo := blk_frozen BO7.out 0))
  have hgr : w.heap.size ≤ gr := by have h2 := GR3.out; have h1 := below_size H1.out; omega
  refine bodyPost_ret (results_ct rfl _ _ gr 30 #[.slice Ao l0_0.length co] (0, 0) _ rfl (blk_put (cs := #[.slice none 0 0]) BR7.out 0 _ rfl) Try.underlying30 rfl (by kernel_rfl)) rfl ?_
  exact ⟨_, rfl, Kd.R_mono (Kd.R_far (p := ⟨gr, 0, none⟩) (Kd.R_types HO7.out BR7.out (by decide)) (fun _ hk => hk.2) (.slice Ao l0_0.length co)) (fun _ hk => trivial), HB7.out.setCell hgr _⟩
 | true =>
  rw [if_pos rfl] at H
  have HH := Aside0.mk H
  clear H
  go_enter Try.func44, Try.ntmps44
  go_wp2_with (first | ((with_reducible refine gate_dst (N := 2) rfl ?_); refine bxE 2 #[.slice A0_0 l0_0.length c0_0] 30 ?_; intro gb hg_ w1 hbox_ hb_; have H1 := Aside0.mk hb_; have BD1 := Aside0.mk hbox_; have GB1 := Aside0.mk hg_; clear hb_ hbox_ hg_; have hczd := czA BD1.out 0 (.slice A0_0 l0_0.length c0_0)) | ((with_reducible refine gate_dst (N := 4) rfl ?_); refine bxE 4 #[.slice none 0 0] 30 ?_; intro gr hg_ w3 hbox_ hb_; have H3 := Aside0.mk hb_; have BR3 := Aside0.mk hbox_; have GR3 := Aside0.mk hg_; clear hb_ hbox_ hg_; have BD3 := Aside0.mk (blk_below BD1.out H3.out); have HB3 := Aside0.mk (below_step H1.out H3.out); have hczd := czA BD3.out 0 (.slice A0_0 l0_0.length c0_0); have hczr := czA BR3.out 0 (.slice none 0 0); have hfzr := blk_frozen BR3.out 0) | (go_at_call 82; refine (impl_copyDisk.calls _ _ l0_0 l0_0 _ (Kd.C_below HR0.out HB3.out) HC0.out HF.out).mono ?_; rintro e w4 ⟨v1, rfl, ho_, hb_⟩; have HO4 := Aside0.mk (Kd.R_lower ho_ (below_size HB3.out)); have HB4 := Aside0.mk (below_step HB3.out hb_); have BD4 := Aside0.mk (blk_below BD3.out hb_); have BR4 := Aside0.mk (blk_below BR3.out hb_); clear ho_ hb_; obtain ⟨Ao, co, eo⟩ := Kd.R_slice HO4.out; subst eo) | ((with_reducible refine gate_dst (N := 6) rfl ?_); refine bxE 6 #[.slice none 0 0] 30 ?_; intro go hg_ w5 hbox_ hb_; have H5 := Aside0.mk hb_; have BO5 := Aside0.mk hbox_; have GO5 := Aside0.mk hg_; clear hb_ hbox_ hg_; have BD5 := Aside0.mk (blk_below BD4.out H5.out); have BR5 := Aside0.mk (blk_below BR4.out H5.out); have HB5 := Aside0.mk (below_step HB4.out H5.out); have HO5 := Aside0.mk (Kd.R_below HO4.out H5.out); have HNd := Aside0.mk (show gb ≠ go by have h1 := GO5.out; have h2 := blk_lt BD4.out; omega); have HNr := Aside0.mk (show gr ≠ go by have h1 := GO5.out; have h2 := blk_lt BR4.out; omega); have HGO := Aside0.mk (show w.heap.size ≤ go by have h1 := GO5.out; have h2 := below_size HB4.out; omega)) | (refine store_blk rfl rfl 30 (.tmp 6) (.tmp 11) rfl (g := go) (off := 0) (e := 30) (cur := #[.slice none 0 0]) (.agg #[.slice Ao l0_0.length co]) [.slice Ao l0_0.length co] ?sp ?sx rfl impl_DoActs.size30 BO5.out (by simp) (fun q hq => by simp at hq; subst hq; rfl) ?_; (case sp => rfl); (case sx => first | rfl | (simp [Act.eval]; done)); intro w6 cur_ h_ hl_ hg_; obtain rfl := impl_Disk_do.cur_eq hl_; have BO6 : Aside0 (w6.heap[go]? = some (.cells #[.slice Ao l0_0.length co] 30 (0, 0))) := ⟨h_⟩; have BD6 := Aside0.mk (impl_DoActs.gkeep hg_ BD5.out HNd.out); have BR6 := Aside0.mk (impl_DoActs.gkeep hg_ BR5.out HNr.out); have HO6 := Aside0.mk (impl_Disk_do.R_blk HO5.out (fun g hg2 => by obtain ⟨cells, hcells⟩ := Kd.R_typed HO5.out g hg2; exact hg_.block g (blk_lt hcells) (fun e => Kd.R_ne HO5.out BO5.out (by decide) (by rw [hg2, ← e])))); have HB6 := Aside0.mk (HB5.out.grown hg_ (below_size HB5.out) (fun k hk => by injection hk with hk; rw [← hk]; exact HGO.out)); clear h_ hl_ hg_; have hczd := czA BD6.out 0 (.slice A0_0 l0_0.length c0_0); have hczr := czA BR6.out 0 (.slice none 0 0); have hfzr := blk_frozen BR6.out 0; have hczo := czA BO6.out 0 (.slice Ao l0_0.length co); have hfzo := blk_frozen BO6.out 0) | (go_at_call 21; refine (impl_DiskOk.calls k _ _ l0_0 _ _ (Kd.C_below HR0.out HB6.out) HC0.out HA.out).mono ?_; rintro e w7 ⟨rfl, hb_⟩; have HB7 := Aside0.mk (below_step HB6.out hb_); have BR7 := Aside0.mk (blk_below BR6.out hb_); have BO7 := Aside0.mk (blk_below BO6.out hb_); have HO7 := Aside0.mk (Kd.R_below HO6.out hb_); clear hb_ hczd; have hczr := czA BR7.out 0 (.slice none 0 0); have hfzr := blk_frozen BR7.out 0; have hczo := czA BO7.out 0 (.slice Ao l0_0.length co); have hfzo := blk_frozen BO7.out 0))
  have HGR := Aside0.mk (show w.heap.size ≤ gr by have h2 := GR3.out; have h1 := below_size H1.out; omega)
  clear hczr hfzr hczo hfzo
  go_loopw [18] (fun v18 wr => ∃ (i : Nat) (li : List S45) (A6 : Option Addr) (c6 : Nat), i ≤ l1.length ∧ v18 = .int .i64 (i : Int) ∧ Aside0 (impl_DoActs.goF (l1.drop i) i li = some (r1, r2)) ∧ Aside0 (wr.heap[go]? = some (.cells #[.slice A6 li.length c6] 30 (0, 0))) ∧ Aside0 (wr.heap[gr]? = some (.cells #[.slice none 0 0] 30 (0, 0))) ∧ Aside0 (Kd.R k45 45 wr w.heap.size (fun _ => True) (.slice A6 li.length c6) li) ∧ Aside0 (Below w.heap.size w wr)) (fun v18 _ => l1.length - (intOf v18).toNat)
  case atStart => exact ⟨0, l0_0, Ao, co, Nat.zero_le _, rfl, by rw [List.drop_zero]; exact HH, BO7, BR7, HO7, HB7⟩
  case round =>
   clear HH HB7 BR7 BO7 HO7
   obtain ⟨i, li, A6, c6, hi, rfl, HH, BO, BR, HO, HB⟩ := hrel
   have hczo := czA BO.out 0 (.slice A6 li.length c6)
   have hfzo := blk_frozen BO.out 0
   have hl1 : l1.length ≤ 4611686018427387904 := HL.out.2
   by_cases hlt : i < l1.length
   ·obtain ⟨ad, rfl, h0, h1, h2, h3⟩ := at_T55 (Kd.C_below HR1.out HB.out) (i : Int) (by omega) (by omega)
    simp only [Int.toNat_natCast] at h0 h1 h2 h3
    have hx : rd_T55 l1 (i : Int) = l1.getD i z55 := rfl
    rw [hx] at h0 h1 h2 h3
    obtain ⟨⟨p1, p2⟩, hP, hQ⟩ := Option.bind_eq_some_iff.mp ((impl_DoActs.goF_at hlt).symm.trans HH.out)
    have HP := Aside0.mk hP
    have HQ := Aside0.mk hQ
    clear HH hP hQ hx
    generalize l1.getD i z55 = x at h0 h1 h2 h3 HP
    obtain ⟨x0, x1, x2, x3⟩ := x
    dsimp only at h0 h1 h2 h3 HP
    have HFi : Aside0 (impl_copyDisk.f li = some li) := ⟨by
     have h1 := impl_DoActs.doF_len HP.out
     have h2 : li.length ≤ 1099511627776 := by omega
     simp [impl_copyDisk.f, impl_File_119.f, h2]⟩
    have hp : (i : Int) < (l1.length : Int) := by omega
    go_wp2_with (first | ((with_reducible refine gate_dst (N := 8) rfl ?_); refine bxE 8 #[.int .i64 0, .string ⟨#[]⟩, .string ⟨#[]⟩, .string ⟨#[]⟩] 55 ?_; intro ga hg_ u1 hbox_ hb_; have K1 := Aside0.mk hb_; have CA1 := Aside0.mk hbox_; have KG1 := Aside0.mk hg_; clear hb_ hbox_ hg_; have CO1 := Aside0.mk (blk_below BO.out K1.out); have CR1 := Aside0.mk (blk_below BR.out K1.out); have KO1 := Aside0.mk (Kd.R_below HO.out K1.out); have KB1 := Aside0.mk (below_step HB.out K1.out); have hca0 := czA CA1.out 0 (.int .i64 0); have hca1 := czA CA1.out 1 (.string ⟨#[]⟩); have hca2 := czA CA1.out 2 (.string ⟨#[]⟩); have hca3 := czA CA1.out 3 (.string ⟨#[]⟩); have hfa := blk_frozen CA1.out 0; have hczo := czA CO1.out 0 (.slice A6 li.length c6); have hfzo := blk_frozen CO1.out 0) | (refine store_blk rfl rfl 55 (.tmp 8) (.tmp 22) rfl (g := ga) (off := 0) (e := 55) (cur := #[.int .i64 0, .string ⟨#[]⟩, .string ⟨#[]⟩, .string ⟨#[]⟩]) (.agg #[.int .i64 x0, .string x1, .string x2, .string x3]) [.int .i64 x0, .string x1, .string x2, .string x3] ?sp ?sx rfl impl_DoActs.size55 CA1.out (by simp) (fun q hq => by simp at hq; rcases hq with rfl | rfl | rfl | rfl <;> rfl) ?_; (case sp => rfl); (case sx => first | rfl | (simp [Act.eval]; done)); intro u2 cur_ h_ hl_ hg_; obtain rfl := impl_Disk_do.cur_eq hl_; have CA2 : Aside0 (u2.heap[ga]? = some (.cells #[.int .i64 x0, .string x1, .string x2, .string x3] 55 (0, 0))) := ⟨h_⟩; have CO2 := Aside0.mk (impl_DoActs.gkeep hg_ CO1.out (fun e => by have h1 := CO1.out; rw [e, CA1.out] at h1; simp at h1)); have CR2 := Aside0.mk (impl_DoActs.gkeep hg_ CR1.out (fun e => by have h1 := CR1.out; rw [e, CA1.out] at h1; simp at h1)); have KO2 := Aside0.mk (impl_Disk_do.R_blk KO1.out (fun g hg2 => by obtain ⟨cells, hcells⟩ := Kd.R_typed KO1.out g hg2; exact hg_.block g (blk_lt hcells) (fun e => Kd.R_ne KO1.out CA1.out (by decide) (by rw [hg2, ← e])))); have KB2 := Aside0.mk (KB1.out.grown hg_ (below_size KB1.out) (fun k hk => by injection hk with hk; rw [← hk]; have h1 := KG1.out; have h2 := below_size HB.out; omega)); clear h_ hl_ hg_; have hca0 := czA CA2.out 0 (.int .i64 x0); have hca1 := czA CA2.out 1 (.string x1); have hca2 := czA CA2.out 2 (.string x2); have hca3 := czA CA2.out 3 (.string x3); have hczo := czA CO2.out 0 (.slice A6 li.length c6); have hfzo := blk_frozen CO2.out 0) | (go_at_call 82; refine (impl_copyDisk.calls _ _ li li _ (Kd.R_reads' KO2.out).2.2 (Kd.R_reads' KO2.out).2.1 HFi.out).mono ?_; rintro e u3 ⟨v1, rfl, ho_, hb_⟩; have KN3 := Aside0.mk ho_; have KB3 := Aside0.mk (below_step KB2.out hb_); have CA3 := Aside0.mk (blk_below CA2.out hb_); have CO3 := Aside0.mk (blk_below CO2.out hb_); have CR3 := Aside0.mk (blk_below CR2.out hb_); have KO3 := Aside0.mk (Kd.R_below KO2.out hb_); have KS3 := Aside0.mk (show u2.heap.size ≤ u3.heap.size from hb_.size); clear ho_ hb_; obtain ⟨An, cn, en⟩ := Kd.R_slice KN3.out; subst en) | ((with_reducible refine gate_dst (N := 9) rfl ?_); refine bxE 9 #[.slice none 0 0] 30 ?_; intro gn hg_ u4 hbox_ hb_; have K4 := Aside0.mk hb_; have CN4 := Aside0.mk hbox_; have KG4 := Aside0.mk hg_; clear hb_ hbox_ hg_; have CA4 := Aside0.mk (blk_below CA3.out K4.out); have CO4 := Aside0.mk (blk_below CO3.out K4.out); have CR4 := Aside0.mk (blk_below CR3.out K4.out); have KO4 := Aside0.mk (Kd.R_below KO3.out K4.out); have KN4 := Aside0.mk (Kd.R_below KN3.out K4.out); have KB4 := Aside0.mk (below_step KB3.out K4.out); have NO := Aside0.mk (show go ≠ gn by have h1 := KG4.out; have h2 := blk_lt CO3.out; omega); have NR := Aside0.mk (show gr ≠ gn by have h1 := KG4.out; have h2 := blk_lt CR3.out; omega); have KGN := Aside0.mk (show w.heap.size ≤ gn by have h1 := KG4.out; have h2 := below_size KB3.out; omega)) | (refine store_blk rfl rfl 30 (.tmp 9) (.tmp 24) rfl (g := gn) (off := 0) (e := 30) (cur := #[.slice none 0 0]) (.agg #[.slice An li.length cn]) [.slice An li.length cn] ?sp ?sx rfl impl_DoActs.size30 CN4.out (by simp) (fun q hq => by simp at hq; subst hq; rfl) ?_; (case sp => rfl); (case sx => first | rfl | (simp [Act.eval]; done)); intro u5 cur_ h_ hl_ hg_; obtain rfl := impl_Disk_do.cur_eq hl_; have CN5 : Aside0 (u5.heap[gn]? = some (.cells #[.slice An li.length cn] 30 (0, 0))) := ⟨h_⟩; have CO5 := Aside0.mk (impl_DoActs.gkeep hg_ CO4.out NO.out); have CR5 := Aside0.mk (impl_DoActs.gkeep hg_ CR4.out NR.out); have CA5 := Aside0.mk (impl_DoActs.gkeep hg_ CA4.out (fun e => by have h1 := CA4.out; rw [e, CN4.out] at h1; simp at h1)); have KO5 := Aside0.mk (impl_Disk_do.R_blk KO4.out (fun g hg2 => by obtain ⟨cells, hcells⟩ := Kd.R_typed KO4.out g hg2; exact hg_.block g (blk_lt hcells) (fun e => Kd.R_ne KO4.out CN4.out (by decide) (by rw [hg2, ← e])))); have KN5 := Aside0.mk (impl_Disk_do.R_blk KN4.out (fun g hg2 => by obtain ⟨cells, hcells⟩ := Kd.R_typed KN4.out g hg2; exact hg_.block g (blk_lt hcells) (fun e => Kd.R_ne KN4.out CN4.out (by decide) (by rw [hg2, ← e])))); have KB5 := Aside0.mk (KB4.out.grown hg_ (below_size KB4.out) (fun k hk => by injection hk with hk; rw [← hk]; exact KGN.out)); clear h_ hl_ hg_; have hca0 := czA CA5.out 0 (.int .i64 x0); have hca1 := czA CA5.out 1 (.string x1); have hca2 := czA CA5.out 2 (.string x2); have hca3 := czA CA5.out 3 (.string x3)))
    go_at_call 87
    refine (impl_Disk_do.calls gn w.heap.size An cn li x0 x1 x2 x3 p1 p2 u5 (Kd.R_lower KN5.out (by have h1 := below_size KB2.out; exact h1)) CN5.out (below_size KB5.out) HP.out).mono ?_
    rintro e u6 ⟨rfl, v6, hb6, hr6, hf6⟩
    obtain ⟨A8, c8, rfl⟩ := Kd.R_slice hr6
    have KB6 := Aside0.mk (KB5.out.trans (impl_Disk_put.FrS.below hf6 (fun k hk => by
     rcases hk with hk | hk
     ·rw [hk]; exact KGN.out
     ·exact Nat.le_trans (below_size KB2.out) (Kd.R_base KN5.out k hk.symm)) (below_size KB5.out)))
    have CO6 := Aside0.mk ((hf6.block go (blk_lt CO5.out) (fun hk => by
     rcases hk with hk | hk
     ·exact NO.out hk
     ·exact Kd.R_ne KN5.out CO5.out (by decide) hk)).trans CO5.out)
    have CR6 := Aside0.mk ((hf6.block gr (blk_lt CR5.out) (fun hk => by
     rcases hk with hk | hk
     ·exact NR.out hk
     ·exact Kd.R_ne KN5.out CR5.out (by decide) hk)).trans CR5.out)
    have KO6 := Aside0.mk (impl_Disk_do.R_blk KO5.out (fun g hg2 => hf6.block g (by
     obtain ⟨cells, hcells⟩ := Kd.R_typed KO5.out g hg2
     exact blk_lt hcells) (fun hk => by
     rcases hk with hk | hk
     ·exact Kd.R_ne KO5.out CN5.out (by decide) (by rw [hg2, hk])
     ·have h1 := Kd.R_base KN5.out g hk.symm
      obtain ⟨cells, hcells⟩ := Kd.R_typed KO2.out g hg2
      have h2 := blk_lt hcells
      omega)))
    have KN6 := Aside0.mk hr6
    have hczn := czA hb6 0 (.slice A8 p1.length c8)
    have hczo := czA CO6.out 0 (.slice A6 li.length c6)
    have hfzo := blk_frozen CO6.out 0
    have hczr := czA CR6.out 0 (.slice none 0 0)
    have hfzr := blk_frozen CR6.out 0
    clear hb6 hr6 hf6 h0 h1 h2 h3
    cases p2 with
    | false =>
     obtain ⟨rfl, rfl⟩ : li = r1 ∧ (i : Int) = r2 := by simpa using HQ.out
     go_wp2
     refine bodyPost_ret (results_ct rfl _ _ gr 30 #[.slice A6 li.length c6] (0, 0) _ rfl (blk_put (cs := #[.slice none 0 0]) CR6.out 0 _ rfl) Try.underlying30 rfl (by kernel_rfl)) rfl ?_
     exact ⟨_, rfl, Kd.R_mono (Kd.R_far (p := ⟨gr, 0, none⟩) (Kd.R_types KO6.out CR6.out (by decide)) (fun _ hk => hk.2) (.slice A6 li.length c6)) (fun _ hk => trivial), KB6.out.setCell HGR.out _⟩
    | true =>
     have HQ2 := Aside0.mk (show impl_DoActs.goF (l1.drop (i + 1)) (i + 1) p1 = some (r1, r2) by simpa using HQ.out)
     clear HQ hczr hfzr
     go_wp2
     refine ⟨⟨i + 1, p1, A8, c8, by omega, by first | rfl | go_num, HQ2, ⟨blk_put (cs := #[.slice A6 li.length c6]) CO6.out 0 (.slice A8 p1.length c8) rfl⟩, ⟨(Below.heap_setCell u6 ⟨go, 0, none⟩ (.slice A8 p1.length c8) gr HNr.out).trans CR6.out⟩, ⟨Kd.R_mono (Kd.R_far (p := ⟨go, 0, none⟩) (Kd.R_types KN6.out CO6.out (by decide)) (fun _ hk => hk.2) (.slice A8 p1.length c8)) (fun _ hk => trivial)⟩, ⟨KB6.out.setCell HGO.out _⟩⟩, by simp [intOf]; omega⟩
   ·obtain rfl : i = l1.length := by omega
    obtain ⟨rfl, rfl⟩ : li = r1 ∧ (l1.length : Int) = r2 := by
     have h1 := HH.out
     rw [List.drop_of_length_le (Nat.le_refl _)] at h1
     simpa [impl_DoActs.goF] using h1
    have hczr := czA BR.out 0 (.slice none 0 0)
    have hfzr := blk_frozen BR.out 0
    go_wp2
    refine bodyPost_ret (results_ct rfl _ _ gr 30 #[.slice A6 li.length c6] (0, 0) _ rfl (blk_put (cs := #[.slice none 0 0]) BR.out 0 _ rfl) Try.underlying30 rfl (by kernel_rfl)) rfl ?_
    exact ⟨_, rfl, Kd.R_mono (Kd.R_far (p := ⟨gr, 0, none⟩) (Kd.R_types HO.out BR.out (by decide)) (fun _ hk => hk.2) (.slice A6 li.length c6)) (fun _ hk => trivial), HB.out.setCell HGR.out _⟩

/-- A state of type 139 at block g of W; what its slices lead to came in by w0. -/
def IsS139 (w0 W : World) (g : Nat) (f0 : List Int) (f1 : Int) (f2 : Int) : Prop := ∃ A0 c0, W.heap[g]? = some (.cells #[.slice A0 f0.length c0, .int .i64 f1, .int .i64 f2] 139 (0, 0)) ∧ w0.heap.size ≤ g ∧ Kd.C (Kd.int .u8) w0 A0 f0.length f0
theorem IsS139.grown {w0 W : World} {g : Nat} {f0 : List Int} {f1 : Int} {f2 : Int} {W1 : World} {row : Option Nat} (h : IsS139 w0 W g f0 f1 f2) (hw : W.grownBy W1 row) (hne : some g ≠ row) : IsS139 w0 W1 g f0 f1 f2 := by
 obtain ⟨A0, c0, hb, hg, hr0⟩ := h
 exact ⟨A0, c0, blk_grown hb hw hne, hg, hr0⟩
theorem IsS139.kept {w0 W : World} {g : Nat} {f0 : List Int} {f1 : Int} {f2 : Int} {W1 : World} {S : Nat → Prop} (h : IsS139 w0 W g f0 f1 f2) (hk : Kept W W1 S) (hne : ¬ S g) : IsS139 w0 W1 g f0 f1 f2 := by
 obtain ⟨A0, c0, hb, hg, hr0⟩ := h
 exact ⟨A0, c0, blk_kept hb hk hne, hg, hr0⟩
theorem IsS139.below {w0 W : World} {g : Nat} {f0 : List Int} {f1 : Int} {f2 : Int} {W1 : World} (h : IsS139 w0 W g f0 f1 f2) (hw : Below W.heap.size W W1) : IsS139 w0 W1 g f0 f1 f2 := h.grown (grown_of_below hw none) (by simp)
theorem IsS139.alloc {w0 W : World} {g : Nat} {f0 : List Int} {f1 : Int} {f2 : Int} (h : IsS139 w0 W g f0 f1 f2) (o : Obj) : IsS139 w0 (W.alloc o) g f0 f1 f2 := h.below (below_alloc (Below.refl _ _) o)
theorem IsS139.drewN {w0 W : World} {g : Nat} {f0 : List Int} {f1 : Int} {f2 : Int} (h : IsS139 w0 W g f0 f1 f2) (m : Nat) : IsS139 w0 (W.drewN m) g f0 f1 f2 := h
theorem IsS139.drew {w0 W : World} {g : Nat} {f0 : List Int} {f1 : Int} {f2 : Int} (h : IsS139 w0 W g f0 f1 f2) : IsS139 w0 W.drew g f0 f1 f2 := h
theorem IsS139.at_ {w0 W : World} {g : Nat} {f0 : List Int} {f1 : Int} {f2 : Int} {w' : World} {m : Nat} (hq : W.drewN m = w') (h : IsS139 w0 W g f0 f1 f2) : IsS139 w0 w' g f0 f1 f2 := by subst hq; exact IsS139.drewN h m
theorem IsS139.apart {w0 W : World} {g : Nat} {f0 : List Int} {f1 : Int} {f2 : Int} {α : Type} {d : Kd α} {e : Nat} {base : Nat} {ok : Nat → Prop} {v : Value} {xs : List α} (h : IsS139 w0 W g f0 f1 f2) (ho : d.R e W base ok v xs) (ht : ∀ q, q ∈ e :: d.E → q ≠ 139) : d.R e W base (fun k => ok k ∧ k ≠ g) v xs := by
 obtain ⟨A0, c0, hb, hg, hr0⟩ := h
 exact Kd.R_types ho hb ht
theorem IsS139.own_ne {w0 W : World} {g : Nat} {f0 : List Int} {f1 : Int} {f2 : Int} {α : Type} {d : Kd α} {e : Nat} {base : Nat} {ok : Nat → Prop} {v : Value} {xs : List α} (h : IsS139 w0 W g f0 f1 f2) (ho : d.R e W base ok v xs) (ht : e ≠ 139) : some g ≠ v.ownBlock := by
 obtain ⟨A0, c0, hb, hg, hr0⟩ := h
 exact Kd.R_ne ho hb ht
theorem IsS139.lt {w0 W : World} {g : Nat} {f0 : List Int} {f1 : Int} {f2 : Int} (h : IsS139 w0 W g f0 f1 f2) : g < W.heap.size := by
 obtain ⟨A0, c0, hb, hg, hr0⟩ := h
 exact blk_lt hb
theorem IsS139.ge {w0 W : World} {g : Nat} {f0 : List Int} {f1 : Int} {f2 : Int} (h : IsS139 w0 W g f0 f1 f2) : w0.heap.size ≤ g := by
 obtain ⟨A0, c0, hb, hg, hr0⟩ := h
 exact hg
theorem IsS139.ne_blk {w0 W : World} {g : Nat} {f0 : List Int} {f1 : Int} {f2 : Int} {a : Nat} {cs : Array Value} {t : TypeId} {fr : Nat × Nat} (h : IsS139 w0 W g f0 f1 f2) (hb2 : W.heap[a]? = some (.cells cs t fr)) (ht : t ≠ 139) : g ≠ a := by
 obtain ⟨A0, c0, hb, hg, hr0⟩ := h
 rintro rfl
 rw [hb] at hb2
 injection hb2 with hb2
 injection hb2 with _ ht2
 exact ht ht2.symm
theorem IsS139.far {w0 W : World} {g : Nat} {f0 : List Int} {f1 : Int} {f2 : Int} {p : Addr} (h : IsS139 w0 W g f0 f1 f2) (hne : g ≠ p.block) (u : Value) : IsS139 w0 (W.setCell p u) g f0 f1 f2 := by
 obtain ⟨A0, c0, hb, hg, hr0⟩ := h
 exact ⟨A0, c0, blk_far hb hne u, hg, hr0⟩
theorem cellS139_0 {W : World} {g : Nat} {A0 : Option Addr} {c0 : Nat} {f0 : List Int} {f1 : Int} {f2 : Int} (h : W.heap[g]? = some (.cells #[.slice A0 f0.length c0, .int .i64 f1, .int .i64 f2] 139 (0, 0))) : W.cell? ⟨g, 0, none⟩ = some (.slice A0 f0.length c0) := (blk_cell h 0).trans rfl
theorem cellS139_1 {W : World} {g : Nat} {A0 : Option Addr} {c0 : Nat} {f0 : List Int} {f1 : Int} {f2 : Int} (h : W.heap[g]? = some (.cells #[.slice A0 f0.length c0, .int .i64 f1, .int .i64 f2] 139 (0, 0))) : W.cell? ⟨g, 1, none⟩ = some (.int .i64 f1) := (blk_cell h 1).trans rfl
theorem IsS139.set_1 {w0 W : World} {g : Nat} {f0 : List Int} {f1 : Int} {f2 : Int} (h : IsS139 w0 W g f0 f1 f2) (x : Int) : IsS139 w0 (W.setCell ⟨g, 1, none⟩ (.int .i64 x)) g f0 x f2 := by
 obtain ⟨A0, c0, hb, hg, hr0⟩ := h
 exact ⟨A0, c0, by simpa using blk_set hb 1 (.int .i64 x), hg, hr0⟩
theorem cellS139_2 {W : World} {g : Nat} {A0 : Option Addr} {c0 : Nat} {f0 : List Int} {f1 : Int} {f2 : Int} (h : W.heap[g]? = some (.cells #[.slice A0 f0.length c0, .int .i64 f1, .int .i64 f2] 139 (0, 0))) : W.cell? ⟨g, 2, none⟩ = some (.int .i64 f2) := (blk_cell h 2).trans rfl
theorem IsS139.set_2 {w0 W : World} {g : Nat} {f0 : List Int} {f1 : Int} {f2 : Int} (h : IsS139 w0 W g f0 f1 f2) (x : Int) : IsS139 w0 (W.setCell ⟨g, 2, none⟩ (.int .i64 x)) g f0 f1 x := by
 obtain ⟨A0, c0, hb, hg, hr0⟩ := h
 exact ⟨A0, c0, by simpa using blk_set hb 2 (.int .i64 x), hg, hr0⟩
theorem IsS139.new (w0 W : World) (A0 : Option Addr) (c0 : Nat) (f0 : List Int) (f1 : Int) (f2 : Int) (hB : Below w0.heap.size w0 W) (hr0 : Kd.C (Kd.int .u8) w0 A0 f0.length f0) : IsS139 w0 (W.alloc (.cells #[.slice A0 f0.length c0, .int .i64 f1, .int .i64 f2] 139)) W.heap.size f0 f1 f2 := ⟨A0, c0, by simpa using heap_alloc_new W _, hB.size, hr0⟩

/-! ### spec_l01New: function 76 -/
def spec_l01New.l0 : Nat → List Int → Int → Int → Option (List Int × Int × Int)
 | 0, _, _, _ => none
 | k + 1, x0, x3, x4 => if x4 < (x0.length : Int) then (if x4 < 4000 then (if 0 ≤ x4 then (spec_l01New.l0 k x0 (Go.bits .and .i64 (wrap64 ((wrap64 ((wrap64 (x3 * 131)) + (wrap64 (rd x0 x4)))) + 7)) 1073741823) (wrap64 (x4 + 1))) else (none)) else (some (x0, 0, x3))) else (some (x0, 0, x3))
def spec_l01New.f (k : Nat) (l0 : List Int) : Option (List Int × Int × Int) := spec_l01New.l0 k l0 (wrap64 (27701 + (l0.length : Int))) 0
theorem spec_l01New.mono_l : ∀ k, (∀ y0 y1 y2, LeO (spec_l01New.l0 k y0 y1 y2) (spec_l01New.l0 (k + 1) y0 y1 y2))
 | 0 => fun _ _ _ r h => by simp [spec_l01New.l0] at h
 | k + 1 => by
  have ih0 := spec_l01New.mono_l k
  ·intro y0 y1 y2
   unfold spec_l01New.l0
   repeat' first
   | (with_reducible exact ih0 _ _ _)
   | (with_reducible exact LeO.refl _)
   | (with_reducible exact LeO.none _)
   | (with_reducible refine LeO.ite ?_ ?_)
   | (with_reducible refine LeO.bind ?_ (fun _ => ?_))
   | exact ih0 _ _ _
   | exact LeO.none _
   | refine LeO.ite ?_ ?_
   | refine LeO.bind ?_ (fun _ => ?_)
theorem spec_l01New.mono : ∀ a0 k, LeO (spec_l01New.f k a0) (spec_l01New.f (k + 1) a0) := by
 intro a0 k
 have ih0 := spec_l01New.mono_l k
 unfold spec_l01New.f
 repeat' first
  | (with_reducible exact ih0 _ _ _)
  | (with_reducible exact LeO.refl _)
  | (with_reducible exact LeO.none _)
  | (with_reducible refine LeO.ite ?_ ?_)
  | (with_reducible refine LeO.bind ?_ (fun _ => ?_))
  | exact ih0 _ _ _
  | exact LeO.none _
  | refine LeO.ite ?_ ?_
  | refine LeO.bind ?_ (fun _ => ?_)
set_option maxHeartbeats 8000000 in
set_option maxRecDepth 100000 in
theorem spec_l01New.calls (k : Nat) (A0 : Option Addr) (c0 : Nat) (l0 : List Int) (r1 : List Int) (r2 : Int) (r3 : Int) (w0 w : World) (hB : Below w0.heap.size w0 w) (hr0 : Kd.C (Kd.int .u8) w0 A0 l0.length l0) (hc0 : l0.length ≤ c0) (h : spec_l01New.f k l0 = some (r1, r2, r3)) :
 Calls Try.prog 76 #[.slice A0 l0.length c0] w fun e w' => ∃ g_ : Nat, e = .returned (.pointer (some ⟨g_, 0, none⟩)) ∧ IsS139 w0 w' g_ r1 r2 r3 ∧ Below w0.heap.size w0 w' ∧ Below w.heap.size w w' := by
 have hu139 := Try.underlying139
 have HR0 := aM hr0
 have HC0 := aM hc0
 clear hr0 hc0
 have HBW := aM (Below.refl w.heap.size w)
 have HW0 := aM hB.size
 have HB := aM hB
 clear hB
 have H : (spec_l01New.l0 k l0 (wrap64 (27701 + (l0.length : Int))) 0) = some (r1, r2, r3) := h
 clear h
 have H' := aM H
 clear H
 go_enter Try.func76, Try.ntmps76
 go_wp2
 go_loopg [3, 4] k (fun kq v3 v4 w' => ∃ (x3_1 : Int) (x4_1 : Int), v3 = .int .i64 x3_1 ∧ v4 = .int .i64 x4_1 ∧ Aside0 (spec_l01New.l0 kq l0 x3_1 x4_1 = some (r1, r2, r3)) ∧ Aside0 (kq ≤ k) ∧ Aside0 (Below w.heap.size w w') ∧ Aside0 (Below w0.heap.size w0 w'))
 case atStart => exact ⟨(wrap64 (27701 + (l0.length : Int))), (0), (by first | rfl | (simp; done) | (simp [*]; done)), (by first | rfl | (simp; done) | (simp [*]; done)), H', ⟨Nat.le_refl _⟩, ⟨q13_ HBW⟩, ⟨uL HB⟩⟩
 case round =>
  clear H'
  obtain ⟨x3_1, x4_1, rfl, rfl, HA, HK1, HBW, HB⟩ := hrel
  cases gk with
  | zero => exact absurd HA.out (by simp [spec_l01New.l0])
  | succ k1 =>
   have H := HA.out
   clear HA
   simp only [spec_l01New.l0] at H
   refine Classical.byCases (p := x4_1 < (l0.length : Int)) (fun c2 => ?L1p) (fun c2 => ?L1n)
   case' L1p =>
    rw [if_pos c2] at H
    have c2b0 : decide (x4_1 < (l0.length : Int)) = true := decide_eq_true c2
    clear c2
    refine Classical.byCases (p := x4_1 < 4000) (fun c3 => ?L2p) (fun c3 => ?L2n)
    case' L2p =>
     rw [if_pos c3] at H
     have c3b0 : decide (x4_1 < 4000) = true := decide_eq_true c3
     clear c3
     by_cases c4 : 0 ≤ x4_1
     ·rw [if_pos c4] at H
      have c4b0 : decide (0 ≤ x4_1) = true := decide_eq_true c4
      clear c4
      have H' := aM H
      clear H
      have p199 : 0 ≤ (x4_1 : Int) := of_decide_eq_true (by first | (with_reducible assumption) | assumption)
      have q199 : x4_1 < (l0.length : Int) := of_decide_eq_true (by first | (with_reducible assumption) | assumption)
      obtain ⟨ad199, e199, hx199_0⟩ := Kd.at_int HR0.out x4_1 p199 q199
      cases e199
      replace hx199_0 := pw_cell_below HB.out hx199_0
      replace p199 := eq_true p199; replace q199 := eq_true q199
      go_wp2
      go_roundg k1
      case measure => have := HK1.out; omega
      case rel => exact ⟨(Go.bits .and .i64 (wrap64 ((wrap64 ((wrap64 (x3_1 * 131)) + (wrap64 (rd l0 x4_1)))) + 7)) 1073741823), (wrap64 (x4_1 + 1)), (by first | rfl | (simp; done) | (simp [*]; done)), (by first | rfl | (simp; done) | (simp [*]; done)), H', ⟨by have := HK1.out; omega⟩, ⟨q13_ HBW⟩, ⟨uL HB⟩⟩
     ·rw [if_neg c4] at H
      exact absurd H (by simp)
    case' L2n =>
     rw [if_neg c3] at H
     have c3b0 : decide (x4_1 < 4000) = false := decide_eq_false c3
     clear c3
     simp only [Option.some.injEq, Prod.mk.injEq] at H
     obtain ⟨rfl, rfl, rfl⟩ := H
   case' L1n =>
    rw [if_neg c2] at H
    have c2b0 : decide (x4_1 < (l0.length : Int)) = false := decide_eq_false c2
    clear c2
    simp only [Option.some.injEq, Prod.mk.injEq] at H
    obtain ⟨rfl, rfl, rfl⟩ := H
   case L1p | L1n =>
    go_wp2_with (first | ((with_reducible refine gate_dst (N := 31) rfl ?_); refine bxE 31 #[.slice A0 l0.length c0, .int .i64 0, .int .i64 x3_1] 139 ?_; intro gb200 hg w5 hbox hb; have BK200 := aM (hbox); have GW200 := aM ((by rw [hg]; exact (below_size (q13_ HBW)) : w.heap.size ≤ gb200)); have GE200 := aM ((Nat.le_trans HW0.out (by rw [hg]; exact (below_size (q13_ HBW)) : w.heap.size ≤ gb200) : w0.heap.size ≤ gb200)); replace HBW := aM (below_step HBW.out hb); replace HB := aM (below_step (uL HB) hb); clear hb hbox hg))
    go_ret
    exact ⟨_, rfl, (show IsS139 w0 _ gb200 l0 0 x3_1 from ⟨_, _, by exact nB BK200.out, GE200.out, HR0.out⟩), q14_ HB GE200, q14_ HBW GW200⟩

/-! ### spec_l01Byte: function 81 -/
def spec_l01Byte.f (s0_0 : List Int) (s0_1 : Int) (s0_2 : Int) : Option (Int × Int × Int) := if s0_1 < (s0_0.length : Int) then (if 0 ≤ s0_1 then (some (Go.bits .and .i64 (wrap64 ((Go.bits .and .i64 (Go.bits .xor .i64 ((wrap64 ((wrap64 (s0_2 * 6364136223846793005)) + 1442695040888963407)) / 8589934592) ((wrap64 ((wrap64 (s0_2 * 6364136223846793005)) + 1442695040888963407)) / 35184372088832)) 255) + (wrap64 (rd s0_0 s0_1)))) 255, wrap64 (s0_1 + 1), wrap64 ((wrap64 (s0_2 * 6364136223846793005)) + 1442695040888963407))) else (none)) else (some (Go.bits .and .i64 (Go.bits .xor .i64 ((wrap64 ((wrap64 (s0_2 * 6364136223846793005)) + 1442695040888963407)) / 8589934592) ((wrap64 ((wrap64 (s0_2 * 6364136223846793005)) + 1442695040888963407)) / 35184372088832)) 255, s0_1, wrap64 ((wrap64 (s0_2 * 6364136223846793005)) + 1442695040888963407)))
set_option maxHeartbeats 8000000 in
set_option maxRecDepth 100000 in
theorem spec_l01Byte.calls (g : Nat) (s0_0 : List Int) (s0_1 : Int) (s0_2 : Int) (r1 : Int) (r2 : Int) (r3 : Int) (w0 w : World) (hI : IsS139 w0 w g s0_0 s0_1 s0_2) (hB : Below w0.heap.size w0 w) (h : spec_l01Byte.f s0_0 s0_1 s0_2 = some (r1, r2, r3)) :
 Calls Try.prog 81 #[.pointer (some ⟨g, 0, none⟩)] w fun e w' => e = .returned (.int .i64 r1) ∧ IsS139 w0 w' g s0_0 r2 r3 ∧ Below w0.heap.size w0 w' ∧ KeepBut w w' g none := by
 have HI0 := aM hI
 have HK := aM (KeepBut.refl w g none)
 have HL := aM hB.size
 clear hI
 have HW0 := aM hB.size
 have HB := aM hB
 clear hB
 have H : (if s0_1 < (s0_0.length : Int) then (if 0 ≤ s0_1 then (some (Go.bits .and .i64 (wrap64 ((Go.bits .and .i64 (Go.bits .xor .i64 ((wrap64 ((wrap64 (s0_2 * 6364136223846793005)) + 1442695040888963407)) / 8589934592) ((wrap64 ((wrap64 (s0_2 * 6364136223846793005)) + 1442695040888963407)) / 35184372088832)) 255) + (wrap64 (rd s0_0 s0_1)))) 255, wrap64 (s0_1 + 1), wrap64 ((wrap64 (s0_2 * 6364136223846793005)) + 1442695040888963407))) else (none)) else (some (Go.bits .and .i64 (Go.bits .xor .i64 ((wrap64 ((wrap64 (s0_2 * 6364136223846793005)) + 1442695040888963407)) / 8589934592) ((wrap64 ((wrap64 (s0_2 * 6364136223846793005)) + 1442695040888963407)) / 35184372088832)) 255, s0_1, wrap64 ((wrap64 (s0_2 * 6364136223846793005)) + 1442695040888963407)))) = some (r1, r2, r3) := h
 clear h
 refine Classical.byCases (p := s0_1 < (s0_0.length : Int)) (fun c2 => ?L1p) (fun c2 => ?L1n)
 case' L1p =>
  rw [if_pos c2] at H
  have c2b0 : decide (s0_1 < (s0_0.length : Int)) = true := decide_eq_true c2
  clear c2
  refine Classical.byCases (p := 0 ≤ s0_1) (fun c3 => ?L2p) (fun c3 => ?L2n)
  case' L2p =>
   rw [if_pos c3] at H
   have c3b0 : decide (0 ≤ s0_1) = true := decide_eq_true c3
   clear c3
   simp only [Option.some.injEq, Prod.mk.injEq] at H
   obtain ⟨rfl, rfl, rfl⟩ := H
   obtain ⟨ASz4_0, cSz4_0, HGz4, hgz4, HSz4_0⟩ := HI0.out
   have hcz4_0 := cellS139_0 HGz4
   have hcz4_1 := cellS139_1 HGz4
   have hcz4_2 := cellS139_2 HGz4
   have hfz4_1 := blk_frozen HGz4 1
   have hfz4_2 := blk_frozen HGz4 2
   clear HGz4 hgz4
   have p202 : 0 ≤ (s0_1 : Int) := of_decide_eq_true (by first | (with_reducible assumption) | assumption)
   have q202 : s0_1 < (s0_0.length : Int) := of_decide_eq_true (by first | (with_reducible assumption) | assumption)
   obtain ⟨ad202, e202, hx202_0⟩ := Kd.at_int HSz4_0 s0_1 p202 q202
   cases e202
   have hn202_0 : ad202.block ≠ g := Nat.ne_of_lt (Nat.lt_of_lt_of_le (by have := World.block_lt_of_cell? _ _ hx202_0; first | rwa [add_block] at this | exact this) (IsS139.ge HI0.out))
   replace hx202_0 := pw_cell_below HB.out hx202_0
   replace hx202_0 := (cell_far (p := ⟨g, 2, none⟩) (by first | (rw [add_block]; exact hn202_0) | (show (Addr.add _ _).block ≠ _; rw [add_block]; exact hn202_0) | exact hn202_0) (.int .i64 (wrap64 ((wrap64 (s0_2 * 6364136223846793005)) + 1442695040888963407)))).trans hx202_0
   (try have hy202_0 := fun (n_ : Nat) => (show (((w.drewN n_).setCell ⟨g, 2, none⟩ (.int .i64 (wrap64 ((wrap64 (s0_2 * 6364136223846793005)) + 1442695040888963407))))).cell? _ = some _ from hx202_0))
   clear hn202_0
   replace p202 := eq_true p202; replace q202 := eq_true q202
  case' L2n =>
   rw [if_neg c3] at H
   exact absurd H (by simp)
 case' L1n =>
  rw [if_neg c2] at H
  have c2b0 : decide (s0_1 < (s0_0.length : Int)) = false := decide_eq_false c2
  clear c2
  simp only [Option.some.injEq, Prod.mk.injEq] at H
  obtain ⟨rfl, rfl, rfl⟩ := H
  obtain ⟨ASz5_0, cSz5_0, HGz5, hgz5, HSz5_0⟩ := HI0.out
  have hcz5_0 := cellS139_0 HGz5
  have hcz5_1 := cellS139_1 HGz5
  have hcz5_2 := cellS139_2 HGz5
  have hfz5_1 := blk_frozen HGz5 1
  have hfz5_2 := blk_frozen HGz5 2
  clear HGz5 hgz5
 case L1p | L1n =>
  go_enter Try.func81, Try.ntmps81
  go_wp2
  repeat (go_quiet (fail); try go_wp2)
  go_ret
  exact ⟨by first | rfl | (simp [errW_none, errW_some] <;> rfl) | (simp [*, errW_none, errW_some] <;> rfl), q2_ HI0, q3_ HB HI0, q1_ HK⟩

/-! ### spec_l01Below: function 77 -/
def spec_l01Below.f (s0_0 : List Int) (s0_1 : Int) (s0_2 : Int) (a1 : Int) : Option (Int × Int × Int) := if a1 ≤ 0 then (some (0, s0_1, s0_2)) else (if a1 ≤ 256 then ((spec_l01Byte.f s0_0 s0_1 s0_2).bind fun bt203 => (if a1 = 0 then (none) else (some (Int.tmod bt203.1 a1, bt203.2.1, bt203.2.2)))) else ((spec_l01Byte.f s0_0 s0_1 s0_2).bind fun bt206 => ((spec_l01Byte.f s0_0 bt206.2.1 bt206.2.2).bind fun bt209 => ((spec_l01Byte.f s0_0 bt209.2.1 bt209.2.2).bind fun bt212 => ((spec_l01Byte.f s0_0 bt212.2.1 bt212.2.2).bind fun bt215 => (if a1 = 0 then (none) else (some (Int.tmod (wrap64 ((wrap64 ((wrap64 ((wrap64 (bt206.1 * 16777216)) + (wrap64 (bt209.1 * 65536)))) + (wrap64 (bt212.1 * 256)))) + bt215.1)) a1, bt215.2.1, bt215.2.2))))))))
set_option maxHeartbeats 8000000 in
set_option maxRecDepth 100000 in
theorem spec_l01Below.calls (g : Nat) (s0_0 : List Int) (s0_1 : Int) (s0_2 : Int) (a1 : Int) (r1 : Int) (r2 : Int) (r3 : Int) (w0 w : World) (hI : IsS139 w0 w g s0_0 s0_1 s0_2) (hB : Below w0.heap.size w0 w) (h : spec_l01Below.f s0_0 s0_1 s0_2 a1 = some (r1, r2, r3)) :
 Calls Try.prog 77 #[.pointer (some ⟨g, 0, none⟩), .int .i64 a1] w fun e w' => e = .returned (.int .i64 r1) ∧ IsS139 w0 w' g s0_0 r2 r3 ∧ Below w0.heap.size w0 w' ∧ KeepBut w w' g none := by
 have HI0 := aM hI
 have HK := aM (KeepBut.refl w g none)
 have HL := aM hB.size
 clear hI
 have HW0 := aM hB.size
 have HB := aM hB
 clear hB
 have H : (if a1 ≤ 0 then (some (0, s0_1, s0_2)) else (if a1 ≤ 256 then ((spec_l01Byte.f s0_0 s0_1 s0_2).bind fun bt203 => (if a1 = 0 then (none) else (some (Int.tmod bt203.1 a1, bt203.2.1, bt203.2.2)))) else ((spec_l01Byte.f s0_0 s0_1 s0_2).bind fun bt206 => ((spec_l01Byte.f s0_0 bt206.2.1 bt206.2.2).bind fun bt209 => ((spec_l01Byte.f s0_0 bt209.2.1 bt209.2.2).bind fun bt212 => ((spec_l01Byte.f s0_0 bt212.2.1 bt212.2.2).bind fun bt215 => (if a1 = 0 then (none) else (some (Int.tmod (wrap64 ((wrap64 ((wrap64 ((wrap64 (bt206.1 * 16777216)) + (wrap64 (bt209.1 * 65536)))) + (wrap64 (bt212.1 * 256)))) + bt215.1)) a1, bt215.2.1, bt215.2.2))))))))) = some (r1, r2, r3) := h
 clear h
 by_cases c3 : a1 ≤ 0
 ·rw [if_pos c3] at H
  have c3b0 : decide (a1 ≤ 0) = true := decide_eq_true c3
  clear c3
  simp only [Option.some.injEq, Prod.mk.injEq] at H
  obtain ⟨rfl, rfl, rfl⟩ := H
  go_enter Try.func77, Try.ntmps77
  go_wp2
  go_ret
  exact ⟨by first | rfl | (simp [errW_none, errW_some] <;> rfl) | (simp [*, errW_none, errW_some] <;> rfl), q2_ HI0, q3_ HB HI0, q1_ HK⟩
 ·rw [if_neg c3] at H
  have c3b0 : decide (a1 ≤ 0) = false := decide_eq_false c3
  clear c3
  by_cases c4 : a1 ≤ 256
  ·rw [if_pos c4] at H
   have c4b0 : decide (a1 ≤ 256) = true := decide_eq_true c4
   clear c4
   replace H := Option.bind_eq_some_iff.mp H
   obtain ⟨⟨t203, t204, t205⟩, A50, H⟩ := H
   replace H : (if a1 = 0 then (none) else (some (Int.tmod t203 a1, t204, t205))) = some (r1, r2, r3) := H
   have A5 := aM A50
   clear A50
   by_cases c6 : a1 = 0
   ·rw [if_pos c6] at H
    exact absurd H (by simp)
   ·rw [if_neg c6] at H
    have c6b0 : (a1 == 0) = false := beq_eq_false_iff_ne.mpr c6
    have c6b1 : (a1 != 0) = true := bne_iff_ne.mpr c6
    simp only [Option.some.injEq, Prod.mk.injEq] at H
    obtain ⟨rfl, rfl, rfl⟩ := H
    go_enter Try.func77, Try.ntmps77
    go_wp2_with (first | ((with_reducible refine gate_callee (f := 81) rfl ?_); refine gL (some 14) Try.func81 #[.pointer (some ⟨g, 0, none⟩)] ?_; (with_reducible refine (spec_l01Byte.calls g s0_0 s0_1 s0_2 t203 t204 t205 w0 _ ?side1 ?side2 A5.out).mono ?_); (case side1 => exact q2_ HI0); (case side2 => exact q3_ HB HI0); rintro e w7 ⟨rfl, hi, hb, hk⟩; refine ⟨_, rfl, ?_⟩; replace HK := aM (KeepBut.trans (q1_ HK) hk (.inl rfl)); replace HB := aM (hb); replace HI0 := aM (hi); try clear hb hk hi))
    go_ret
    exact ⟨by first | rfl | (simp [errW_none, errW_some] <;> rfl) | (simp [*, errW_none, errW_some] <;> rfl), q2_ HI0, q3_ HB HI0, q1_ HK⟩
  ·rw [if_neg c4] at H
   have c4b0 : decide (a1 ≤ 256) = false := decide_eq_false c4
   clear c4
   replace H := Option.bind_eq_some_iff.mp H
   obtain ⟨⟨t206, t207, t208⟩, A80, H⟩ := H
   try dsimp only at H
   have A8 := aM A80
   clear A80
   replace H := Option.bind_eq_some_iff.mp H
   obtain ⟨⟨t209, t210, t211⟩, A90, H⟩ := H
   try dsimp only at H
   have A9 := aM A90
   clear A90
   replace H := Option.bind_eq_some_iff.mp H
   obtain ⟨⟨t212, t213, t214⟩, A100, H⟩ := H
   try dsimp only at H
   have A10 := aM A100
   clear A100
   replace H := Option.bind_eq_some_iff.mp H
   obtain ⟨⟨t215, t216, t217⟩, A110, H⟩ := H
   try dsimp only at H
   have A11 := aM A110
   clear A110
   by_cases c12 : a1 = 0
   ·rw [if_pos c12] at H
    exact absurd H (by simp)
   ·rw [if_neg c12] at H
    have c12b0 : (a1 == 0) = false := beq_eq_false_iff_ne.mpr c12
    have c12b1 : (a1 != 0) = true := bne_iff_ne.mpr c12
    simp only [Option.some.injEq, Prod.mk.injEq] at H
    obtain ⟨rfl, rfl, rfl⟩ := H
    go_enter Try.func77, Try.ntmps77
    go_wp2_with (first | ((with_reducible refine gate_callee (f := 81) rfl ?_); refine gL (some 18) Try.func81 #[.pointer (some ⟨g, 0, none⟩)] ?_; (with_reducible refine (spec_l01Byte.calls g s0_0 s0_1 s0_2 t206 t207 t208 w0 _ ?side1 ?side2 A8.out).mono ?_); (case side1 => exact q2_ HI0); (case side2 => exact q3_ HB HI0); rintro e w13 ⟨rfl, hi, hb, hk⟩; refine ⟨_, rfl, ?_⟩; replace HK := aM (KeepBut.trans (q1_ HK) hk (.inl rfl)); replace HB := aM (hb); replace HI0 := aM (hi); try clear hb hk hi) | ((with_reducible refine gate_callee (f := 81) rfl ?_); refine gL (some 20) Try.func81 #[.pointer (some ⟨g, 0, none⟩)] ?_; (with_reducible refine (spec_l01Byte.calls g s0_0 t207 t208 t209 t210 t211 w0 _ ?side1 ?side2 A9.out).mono ?_); (case side1 => exact q2_ HI0); (case side2 => exact q3_ HB HI0); rintro e w14 ⟨rfl, hi, hb, hk⟩; refine ⟨_, rfl, ?_⟩; replace HK := aM (KeepBut.trans (q1_ HK) hk (.inl rfl)); replace HB := aM (hb); replace HI0 := aM (hi); try clear hb hk hi) | ((with_reducible refine gate_callee (f := 81) rfl ?_); refine gL (some 22) Try.func81 #[.pointer (some ⟨g, 0, none⟩)] ?_; (with_reducible refine (spec_l01Byte.calls g s0_0 t210 t211 t212 t213 t214 w0 _ ?side1 ?side2 A10.out).mono ?_); (case side1 => exact q2_ HI0); (case side2 => exact q3_ HB HI0); rintro e w15 ⟨rfl, hi, hb, hk⟩; refine ⟨_, rfl, ?_⟩; replace HK := aM (KeepBut.trans (q1_ HK) hk (.inl rfl)); replace HB := aM (hb); replace HI0 := aM (hi); try clear hb hk hi) | ((with_reducible refine gate_callee (f := 81) rfl ?_); refine gL (some 24) Try.func81 #[.pointer (some ⟨g, 0, none⟩)] ?_; (with_reducible refine (spec_l01Byte.calls g s0_0 t213 t214 t215 t216 t217 w0 _ ?side1 ?side2 A11.out).mono ?_); (case side1 => exact q2_ HI0); (case side2 => exact q3_ HB HI0); rintro e w16 ⟨rfl, hi, hb, hk⟩; refine ⟨_, rfl, ?_⟩; replace HK := aM (KeepBut.trans (q1_ HK) hk (.inl rfl)); replace HB := aM (hb); replace HI0 := aM (hi); try clear hb hk hi))
    go_ret
    exact ⟨by first | rfl | (simp [errW_none, errW_some] <;> rfl) | (simp [*, errW_none, errW_some] <;> rfl), q2_ HI0, q3_ HB HI0, q1_ HK⟩

/-! ### spec_l01Text: function 78 -/
mutual
def spec_l01Text.j0 : Nat → Int → List Int → Int → Int → Option (ByteArray × Int × Int)
 | 0, _, _, _, _ => none
 | k + 1, x1, x1000, x1001, x1002 => spec_l01Text.l0 k x1 (([] : List Int)) 0 x1000 x1001 x1002
def spec_l01Text.l0 : Nat → Int → List Int → Int → List Int → Int → Int → Option (ByteArray × Int × Int)
 | 0, _, _, _, _, _, _ => none
 | k + 1, x1, x5, x6, x1000, x1001, x1002 => if x6 < x1 then ((spec_l01Byte.f x1000 x1001 x1002).bind fun bt221 => (if x5.length < 140737488355328 then (spec_l01Text.l0 k x1 (x5 ++ [(bt221.1) % 256]) (wrap64 (x6 + 1)) x1000 bt221.2.1 bt221.2.2) else (none))) else (some (strOfNums x5, x1001, x1002))
end
def spec_l01Text.f (k : Nat) (s0_0 : List Int) (s0_1 : Int) (s0_2 : Int) (a1 : Int) : Option (ByteArray × Int × Int) := if a1 > 5000 then (spec_l01Text.j0 k 5000 s0_0 s0_1 s0_2) else (spec_l01Text.j0 k a1 s0_0 s0_1 s0_2)
theorem spec_l01Text.mono_l : ∀ k, (∀ y0 y1 y2 y3, LeO (spec_l01Text.j0 k y0 y1 y2 y3) (spec_l01Text.j0 (k + 1) y0 y1 y2 y3)) ∧ (∀ y0 y1 y2 y3 y4 y5, LeO (spec_l01Text.l0 k y0 y1 y2 y3 y4 y5) (spec_l01Text.l0 (k + 1) y0 y1 y2 y3 y4 y5))
 | 0 => ⟨fun _ _ _ _ r h => by simp [spec_l01Text.j0] at h, fun _ _ _ _ _ _ r h => by simp [spec_l01Text.l0] at h⟩
 | k + 1 => by
  obtain ⟨ih0, ih1⟩ := spec_l01Text.mono_l k
  refine ⟨?_, ?_⟩
  ·intro y0 y1 y2 y3
   unfold spec_l01Text.j0
   repeat' first
   | (with_reducible exact ih0 _ _ _ _)
   | (with_reducible exact ih1 _ _ _ _ _ _)
   | (with_reducible exact LeO.refl _)
   | (with_reducible exact LeO.none _)
   | (with_reducible refine LeO.ite ?_ ?_)
   | (with_reducible refine LeO.bind ?_ (fun _ => ?_))
   | exact ih0 _ _ _ _
   | exact ih1 _ _ _ _ _ _
   | exact LeO.none _
   | refine LeO.ite ?_ ?_
   | refine LeO.bind ?_ (fun _ => ?_)
  ·intro y0 y1 y2 y3 y4 y5
   unfold spec_l01Text.l0
   repeat' first
   | (with_reducible exact ih0 _ _ _ _)
   | (with_reducible exact ih1 _ _ _ _ _ _)
   | (with_reducible exact LeO.refl _)
   | (with_reducible exact LeO.none _)
   | (with_reducible refine LeO.ite ?_ ?_)
   | (with_reducible refine LeO.bind ?_ (fun _ => ?_))
   | exact ih0 _ _ _ _
   | exact ih1 _ _ _ _ _ _
   | exact LeO.none _
   | refine LeO.ite ?_ ?_
   | refine LeO.bind ?_ (fun _ => ?_)
theorem spec_l01Text.mono : ∀ a0 a1 a2 a3 k, LeO (spec_l01Text.f k a0 a1 a2 a3) (spec_l01Text.f (k + 1) a0 a1 a2 a3) := by
 intro a0 a1 a2 a3 k
 obtain ⟨ih0, ih1⟩ := spec_l01Text.mono_l k
 unfold spec_l01Text.f
 repeat' first
  | (with_reducible exact ih0 _ _ _ _)
  | (with_reducible exact ih1 _ _ _ _ _ _)
  | (with_reducible exact LeO.refl _)
  | (with_reducible exact LeO.none _)
  | (with_reducible refine LeO.ite ?_ ?_)
  | (with_reducible refine LeO.bind ?_ (fun _ => ?_))
  | exact ih0 _ _ _ _
  | exact ih1 _ _ _ _ _ _
  | exact LeO.none _
  | refine LeO.ite ?_ ?_
  | refine LeO.bind ?_ (fun _ => ?_)
set_option maxHeartbeats 8000000 in
set_option maxRecDepth 100000 in
theorem spec_l01Text.calls (k : Nat) (g : Nat) (s0_0 : List Int) (s0_1 : Int) (s0_2 : Int) (a1 : Int) (r1 : ByteArray) (r2 : Int) (r3 : Int) (w0 w : World) (hI : IsS139 w0 w g s0_0 s0_1 s0_2) (hB : Below w0.heap.size w0 w) (h : spec_l01Text.f k s0_0 s0_1 s0_2 a1 = some (r1, r2, r3)) :
 Calls Try.prog 78 #[.pointer (some ⟨g, 0, none⟩), .int .i64 a1] w fun e w' => e = .returned (.string r1) ∧ IsS139 w0 w' g s0_0 r2 r3 ∧ Below w0.heap.size w0 w' ∧ KeepBut w w' g none := by
 have HI0 := aM hI
 have HK := aM (KeepBut.refl w g none)
 have HL := aM hB.size
 clear hI
 have HW0 := aM hB.size
 have HB := aM hB
 clear hB
 have H : (if a1 > 5000 then (spec_l01Text.j0 k 5000 s0_0 s0_1 s0_2) else (spec_l01Text.j0 k a1 s0_0 s0_1 s0_2)) = some (r1, r2, r3) := h
 clear h
 have HC3 := aM H
 clear H
 go_enter Try.func78, Try.ntmps78
 go_upto_if 8 with (fail)
 go_cut [1] (fun v1 wc => ∃ (kq : Nat) (x1_2 : Int), v1 = .int .i64 x1_2 ∧ Aside0 (spec_l01Text.j0 kq x1_2 s0_0 s0_1 s0_2 = some (r1, r2, r3)) ∧ Aside0 (kq ≤ k) ∧ Aside0 (IsS139 w0 wc g s0_0 s0_1 s0_2) ∧ Aside0 (KeepBut w wc g none) ∧ Aside0 (Below w0.heap.size w0 wc))
 case first =>
  have H := HC3.out
  clear HC3
  by_cases c4 : a1 > 5000
  ·rw [if_pos c4] at H
   have c4b0 : decide (5000 < a1) = true := decide_eq_true c4
   clear c4
   (first | rw [c4b0] | (simp only [i64_w, i32_w]; rw [c4b0]) | skip)
   have H' := aM H
   clear H
   go_wp2
   go_meet
   case rel => exact ⟨_, (5000), (by first | rfl | (simp; done) | (simp [*]; done)), H', ⟨by first | omega | exact Nat.le_refl _⟩, ⟨q2_ HI0⟩, ⟨q1_ HK⟩, ⟨q3_ HB HI0⟩⟩
  ·rw [if_neg c4] at H
   have c4b0 : decide (5000 < a1) = false := decide_eq_false c4
   clear c4
   (first | rw [c4b0] | (simp only [i64_w, i32_w]; rw [c4b0]) | skip)
   have H' := aM H
   clear H
   go_wp2
   go_meet
   case rel => exact ⟨_, (a1), (by first | rfl | (simp; done) | (simp [*]; done)), H', ⟨by first | omega | exact Nat.le_refl _⟩, ⟨q2_ HI0⟩, ⟨q1_ HK⟩, ⟨q3_ HB HI0⟩⟩
 case rest =>
  clear HC3
  try clear p2; try clear c4; try clear c4b0
  obtain ⟨kq, x1_2, rfl, HA, HJ2, HI0, HK, HB⟩ := hcut
  cases kq with
  | zero => exact absurd HA.out (by simp [spec_l01Text.j0])
  | succ kj2 =>
   have H := HA.out
   clear HA
   simp only [spec_l01Text.j0] at H
   obtain ⟨y218, hy218⟩ : ∃ y_ : List Int, y_ = (([] : List Int)) := ⟨_, rfl⟩
   replace H : (spec_l01Text.l0 kj2 x1_2 y218 0 s0_0 s0_1 s0_2) = some (r1, r2, r3) := by first | (rw [hy218]; with_reducible exact H) | (have H2_ := (Option.bind_some _ _).symm.trans H; rw [hy218]; with_reducible exact H2_) | (have H2_ := (Option.bind_some _ _).symm.trans H; with_reducible exact H2_) | with_reducible exact H | (rw [hy218]; exact H) | exact H
   have Ny218 := aM hy218
   clear hy218
   have H' := aM H
   clear H
   go_wp2_with (first | ((with_reducible refine gate_dst (N := 9) rfl ?_); refine Kd.R_lit (Kd.int .u8) _ 5 ?hg (N := 9) ?hd (xs := ([] : List Int)) (inner := []) (ok := fun _ => True) (okp := fun _ => True) ?hr ?hp (fun _ hk => hk) trivial (Below.refl _ _) (Nat.le_refl _) (by simp) ?_; (case hd => rfl); (case hg => rfl); (case hr => first | (go_simp; done) | (go_simp; rfl)); (case hp => exact (Reps.none _ _)); intro v219 w5 ho6 hb hg_ hnew_; clear hg_ hnew_; (first | rw [← Ny218.out] at ho6 | (simp only [Int.reduceToNat] at ho6; rw [← Ny218.out] at ho6)); have HO220 := aM (Kd.R_lower ho6 (keep_size (w := w) (g := g) (row := none) (q1_ HK))); replace HK := aM (KeepBut.trans (q1_ HK) (KeepBut.of_below hb g none) (.inl rfl)); replace HB := aM (below_step (q3_ HB HI0) hb); replace HI0 := aM (IsS139.below (q2_ HI0) hb); clear hb ho6))
   go_loopg [5, 6] kj2 (fun kq v5 v6 w' => ∃ (x5_2 : List Int) (x6_2 : Int) (x1001_2 : Int) (x1002_2 : Int), v6 = .int .i64 x6_2 ∧ Aside0 (spec_l01Text.l0 kq x1_2 x5_2 x6_2 s0_0 x1001_2 x1002_2 = some (r1, r2, r3)) ∧ Aside0 (kq ≤ kj2) ∧ Aside0 (Kd.R (Kd.int .u8) 5 w' w.heap.size (fun _ => True) v5 x5_2) ∧ Aside0 (IsS139 w0 w' g s0_0 x1001_2 x1002_2) ∧ Aside0 (KeepBut w w' g none) ∧ Aside0 (Below w0.heap.size w0 w'))
   case atStart => exact ⟨(y218), (0), (s0_1), (s0_2), (by first | rfl | (simp; done) | (simp [*]; done)), H', ⟨Nat.le_refl _⟩, ⟨by (with_reducible repeat first | apply rA | apply rN | apply rD); exact HO220.out⟩, ⟨q2_ HI0⟩, ⟨q1_ HK⟩, ⟨q3_ HB HI0⟩⟩
   case round =>
    clear H'
    try clear p2; try clear c4; try clear c4b0; try clear p2
    obtain ⟨x5_2, x6_2, x1001_2, x1002_2, rfl, HA, HK2, HO_5, HI0, HK, HB⟩ := hrel
    cases gk with
    | zero => exact absurd HA.out (by simp [spec_l01Text.l0])
    | succ k2 =>
     have H := HA.out
     clear HA
     simp only [spec_l01Text.l0] at H
     by_cases c7 : x6_2 < x1_2
     ·rw [if_pos c7] at H
      have c7b0 : decide (x6_2 < x1_2) = true := decide_eq_true c7
      clear c7
      replace H := Option.bind_eq_some_iff.mp H
      obtain ⟨⟨t221, t222, t223⟩, A80, H⟩ := H
      try dsimp only at H
      have A8 := aM A80
      clear A80
      by_cases c9 : x5_2.length < 140737488355328
      ·rw [if_pos c9] at H
       have LMc9 := aM c9
       clear c9
       obtain ⟨y224, hy224⟩ : ∃ y_ : List Int, y_ = (x5_2 ++ [(t221) % 256]) := ⟨_, rfl⟩
       replace H : (spec_l01Text.l0 k2 x1_2 y224 (wrap64 (x6_2 + 1)) s0_0 t222 t223) = some (r1, r2, r3) := by first | (rw [hy224]; with_reducible exact H) | (have H2_ := (Option.bind_some _ _).symm.trans H; rw [hy224]; with_reducible exact H2_) | (have H2_ := (Option.bind_some _ _).symm.trans H; with_reducible exact H2_) | with_reducible exact H | (rw [hy224]; exact H) | exact H
       have Ny224 := aM hy224
       clear hy224
       have H' := aM H
       clear H
       go_wp2_with (first | ((with_reducible refine gate_callee (f := 81) rfl ?_); refine gL (some 17) Try.func81 #[.pointer (some ⟨g, 0, none⟩)] ?_; (with_reducible refine (spec_l01Byte.calls g s0_0 x1001_2 x1002_2 t221 t222 t223 w0 _ ?side1 ?side2 A8.out).mono ?_); (case side1 => exact q2_ HI0); (case side2 => exact q3_ HB HI0); rintro e w10 ⟨rfl, hi, hb, hk⟩; refine ⟨_, rfl, ?_⟩; replace HO_5 := aM (Kd.R_mono (Kd.R_keep (IsS139.apart (show IsS139 w0 _ g s0_0 x1001_2 x1002_2 from (q2_ HI0)) (uR HO_5) (by decide)) hk (fun _ h => h.2)) (fun _ h => h.1)); replace HK := aM (KeepBut.trans (q1_ HK) hk (.inl rfl)); replace HB := aM (hb); replace HI0 := aM (hi); try clear hb hk hi) | ((with_reducible refine gate_builtin (b := .append) (xs := #[.tmp 15, .tmp 19]) rfl ?_); at_builtin; refine Kd.R_append (Kd.int .u8) w.heap.size rfl (.tmp 15) (.tmp 19) 36 5 (.int .u8 0) 1 rfl Try.underlying36 info5 rfl (by decide) (by omega) u5 x5_2 ((t221) % 256) [.int .u8 ((t221) % 256)] (fun _ => True) (fun _ => False) rfl rfl ?aP (fun _ hk => hk.elim) ?aF ?aO (Below.refl _ _) ?aS ?aL ?_; (case aP => exact rfl); (case aF => exact (fun _ _ => trivial)); (case aO => exact (uR HO_5)); (case aS => exact (keep_size (w := w) (g := g) (row := none) (q1_ HK))); (case aL => have := LMc9.out; omega); intro v225 w11 ho hb hg hat; rw [← Ny224.out] at ho; have HO226 := aM (ho); replace HB := aM (below_weaken (q3_ HB HI0) HL.out hb); replace HI0 := aM (IsS139.grown (q2_ HI0) hg (IsS139.own_ne HI0.out HO_5.out (by decide))); replace HK := aM (KeepBut.trans (q1_ HK) (KeepBut.of_grown hg g) (Kd.R_base2 HO_5.out)); clear HO_5; clear ho hb hg hat))
       go_roundg k2
       case measure => have := HJ2.out; have := HK2.out; omega
       case rel => exact ⟨(y224), (wrap64 (x6_2 + 1)), (t222), (t223), (by first | rfl | (simp; done) | (simp [*]; done)), H', ⟨by have := HJ2.out; have := HK2.out; omega⟩, ⟨by (with_reducible repeat first | apply rA | apply rN | apply rD); exact HO226.out⟩, ⟨q2_ HI0⟩, ⟨q1_ HK⟩, ⟨q3_ HB HI0⟩⟩
      ·rw [if_neg c9] at H
       exact absurd H (by simp)
     ·rw [if_neg c7] at H
      have c7b0 : decide (x6_2 < x1_2) = false := decide_eq_false c7
      clear c7
      simp only [Option.some.injEq, Prod.mk.injEq] at H
      obtain ⟨rfl, rfl, rfl⟩ := H
      have hcv12 := own_string (P := Try.prog) Try.underlying36 Try.underlying5 Try.underlying9 (Kd.own_of_R HO_5.out)
      go_wp2
      go_ret
      exact ⟨by first | rfl | (simp [errW_none, errW_some] <;> rfl) | (simp [*, errW_none, errW_some] <;> rfl), q2_ HI0, q3_ HB HI0, q1_ HK⟩

/-! ### spec_l01Pick: function 118 -/
def spec_l01Pick.f (s0_0 : List Int) (s0_1 : Int) (s0_2 : Int) (l1 : List ByteArray) : Option (ByteArray × Int × Int) := (spec_l01Below.f s0_0 s0_1 s0_2 (l1.length : Int)).bind fun bt227 => (if 0 ≤ bt227.1 then (if bt227.1 < (l1.length : Int) then (some (rdOf ByteArray.empty l1 bt227.1, bt227.2.1, bt227.2.2)) else (none)) else (none))
set_option maxHeartbeats 8000000 in
set_option maxRecDepth 100000 in
theorem spec_l01Pick.calls (g : Nat) (s0_0 : List Int) (s0_1 : Int) (s0_2 : Int) (A1 : Option Addr) (c1 : Nat) (l1 : List ByteArray) (r1 : ByteArray) (r2 : Int) (r3 : Int) (w0 w : World) (hI : IsS139 w0 w g s0_0 s0_1 s0_2) (hB : Below w0.heap.size w0 w) (hr1 : Kd.C Kd.string w A1 l1.length l1) (hc1 : l1.length ≤ c1) (hf1 : ∀ ad, A1 = some ad → 0 < l1.length → ad.block ≠ g) (h : spec_l01Pick.f s0_0 s0_1 s0_2 l1 = some (r1, r2, r3)) :
 Calls Try.prog 118 #[.pointer (some ⟨g, 0, none⟩), .slice A1 l1.length c1] w fun e w' => e = .returned (.string r1) ∧ IsS139 w0 w' g s0_0 r2 r3 ∧ Below w0.heap.size w0 w' ∧ KeepBut w w' g none := by
 have HR1 := aM hr1
 have HC1 := aM hc1
 clear hr1 hc1
 have HI0 := aM hI
 have HK := aM (KeepBut.refl w g none)
 have HL := aM hB.size
 clear hI
 have HW0 := aM hB.size
 have HB := aM hB
 clear hB
 have H : ((spec_l01Below.f s0_0 s0_1 s0_2 (l1.length : Int)).bind fun bt227 => (if 0 ≤ bt227.1 then (if bt227.1 < (l1.length : Int) then (some (rdOf ByteArray.empty l1 bt227.1, bt227.2.1, bt227.2.2)) else (none)) else (none))) = some (r1, r2, r3) := h
 clear h
 replace H := Option.bind_eq_some_iff.mp H
 obtain ⟨⟨t227, t228, t229⟩, A30, H⟩ := H
 try dsimp only at H
 have A3 := aM A30
 clear A30
 by_cases c4 : 0 ≤ t227
 ·rw [if_pos c4] at H
  have c4b0 : decide (0 ≤ t227) = true := decide_eq_true c4
  clear c4
  by_cases c5 : t227 < (l1.length : Int)
  ·rw [if_pos c5] at H
   have c5b0 : decide (t227 < (l1.length : Int)) = true := decide_eq_true c5
   clear c5
   simp only [Option.some.injEq, Prod.mk.injEq] at H
   obtain ⟨rfl, rfl, rfl⟩ := H
   go_enter Try.func118, Try.ntmps118
   go_wp2_with (first | ((with_reducible refine gate_callee (f := 77) rfl ?_); refine gL (some 9) Try.func77 #[.pointer (some ⟨g, 0, none⟩), .int .i64 (l1.length : Int)] ?_; (with_reducible refine (spec_l01Below.calls g s0_0 s0_1 s0_2 (l1.length : Int) t227 t228 t229 w0 _ ?side1 ?side2 A3.out).mono ?_); (case side1 => exact q2_ HI0); (case side2 => exact q3_ HB HI0); rintro e w6 ⟨rfl, hi, hb, hk⟩; refine ⟨_, rfl, ?_⟩; replace HK := aM (KeepBut.trans (q1_ HK) hk (.inl rfl)); replace HB := aM (hb); replace HI0 := aM (hi); try clear hb hk hi; have p230 : 0 ≤ (t227 : Int) := of_decide_eq_true (by first | (with_reducible assumption) | assumption); have q230 : t227 < (l1.length : Int) := of_decide_eq_true (by first | (with_reducible assumption) | assumption); obtain ⟨ad230, e230, hx230_0⟩ := Kd.at_string HR1.out t227 p230 q230; cases e230; replace hx230_0 := keep_cell HK.out hx230_0 (by first | (rw [add_block]; exact hf1 _ rfl (by omega)) | exact hf1 _ rfl (by omega) | exact hf1 ad230 rfl (by omega)); replace p230 := eq_true p230; replace q230 := eq_true q230))
   go_ret
   exact ⟨by first | rfl | (simp [errW_none, errW_some] <;> rfl) | (simp [*, errW_none, errW_some] <;> rfl), q2_ HI0, q3_ HB HI0, q1_ HK⟩
  ·rw [if_neg c5] at H
   exact absurd H (by simp)
 ·rw [if_neg c4] at H
  exact absurd H (by simp)

/-! ### spec_l03Named: function 80 -/
def spec_l03Named.f (s0_0 : List Int) (s0_1 : Int) (s0_2 : Int) : Option (ByteArray × Int × Int) := (spec_l01Pick.f s0_0 s0_1 s0_2 (([(⟨#[97]⟩ : ByteArray), (⟨#[98]⟩ : ByteArray), (⟨#[99]⟩ : ByteArray), (⟨#[106, 48]⟩ : ByteArray), (⟨#[106, 49]⟩ : ByteArray), (⟨#[106, 43]⟩ : ByteArray), (⟨#[115, 48]⟩ : ByteArray), (⟨#[115, 43]⟩ : ByteArray)] : List ByteArray))).bind fun bt234 => (some (bt234.1, bt234.2.1, bt234.2.2))
set_option maxHeartbeats 8000000 in
set_option maxRecDepth 100000 in
theorem spec_l03Named.calls (g : Nat) (s0_0 : List Int) (s0_1 : Int) (s0_2 : Int) (r1 : ByteArray) (r2 : Int) (r3 : Int) (w0 w : World) (hI : IsS139 w0 w g s0_0 s0_1 s0_2) (hB : Below w0.heap.size w0 w) (h : spec_l03Named.f s0_0 s0_1 s0_2 = some (r1, r2, r3)) :
 Calls Try.prog 80 #[.pointer (some ⟨g, 0, none⟩)] w fun e w' => e = .returned (.string r1) ∧ IsS139 w0 w' g s0_0 r2 r3 ∧ Below w0.heap.size w0 w' ∧ KeepBut w w' g none := by
 have HI0 := aM hI
 have HK := aM (KeepBut.refl w g none)
 have HL := aM hB.size
 clear hI
 have HW0 := aM hB.size
 have HB := aM hB
 clear hB
 have H : ((spec_l01Pick.f s0_0 s0_1 s0_2 (([(⟨#[97]⟩ : ByteArray), (⟨#[98]⟩ : ByteArray), (⟨#[99]⟩ : ByteArray), (⟨#[106, 48]⟩ : ByteArray), (⟨#[106, 49]⟩ : ByteArray), (⟨#[106, 43]⟩ : ByteArray), (⟨#[115, 48]⟩ : ByteArray), (⟨#[115, 43]⟩ : ByteArray)] : List ByteArray))).bind fun bt234 => (some (bt234.1, bt234.2.1, bt234.2.2))) = some (r1, r2, r3) := h
 clear h
 obtain ⟨y231, hy231⟩ : ∃ y_ : List ByteArray, y_ = (([(⟨#[97]⟩ : ByteArray), (⟨#[98]⟩ : ByteArray), (⟨#[99]⟩ : ByteArray), (⟨#[106, 48]⟩ : ByteArray), (⟨#[106, 49]⟩ : ByteArray), (⟨#[106, 43]⟩ : ByteArray), (⟨#[115, 48]⟩ : ByteArray), (⟨#[115, 43]⟩ : ByteArray)] : List ByteArray)) := ⟨_, rfl⟩
 replace H : ((spec_l01Pick.f s0_0 s0_1 s0_2 y231).bind fun bt234 => (some (bt234.1, bt234.2.1, bt234.2.2))) = some (r1, r2, r3) := by first | (rw [hy231]; with_reducible exact H) | (have H2_ := (Option.bind_some _ _).symm.trans H; rw [hy231]; with_reducible exact H2_) | (have H2_ := (Option.bind_some _ _).symm.trans H; with_reducible exact H2_) | with_reducible exact H | (rw [hy231]; exact H) | exact H
 have Ny231 := aM hy231
 clear hy231
 replace H := Option.bind_eq_some_iff.mp H
 obtain ⟨⟨t234, t235, t236⟩, A20, H⟩ := H
 replace H : (some (t234, t235, t236)) = some (r1, r2, r3) := H
 have A2 := aM A20
 clear A20
 simp only [Option.some.injEq, Prod.mk.injEq] at H
 obtain ⟨rfl, rfl, rfl⟩ := H
 go_enter Try.func80, Try.ntmps80
 go_wp2_with (first | ((with_reducible refine gate_dst (N := 4) rfl ?_); refine Kd.R_lit Kd.string _ 9 ?hg (N := 4) ?hd (xs := ([(⟨#[97]⟩ : ByteArray), (⟨#[98]⟩ : ByteArray), (⟨#[99]⟩ : ByteArray), (⟨#[106, 48]⟩ : ByteArray), (⟨#[106, 49]⟩ : ByteArray), (⟨#[106, 43]⟩ : ByteArray), (⟨#[115, 48]⟩ : ByteArray), (⟨#[115, 43]⟩ : ByteArray)] : List ByteArray)) (inner := [.string (⟨#[97]⟩ : ByteArray), .string (⟨#[98]⟩ : ByteArray), .string (⟨#[99]⟩ : ByteArray), .string (⟨#[106, 48]⟩ : ByteArray), .string (⟨#[106, 49]⟩ : ByteArray), .string (⟨#[106, 43]⟩ : ByteArray), .string (⟨#[115, 48]⟩ : ByteArray), .string (⟨#[115, 43]⟩ : ByteArray)]) (ok := fun _ => True) (okp := fun _ => True) ?hr ?hp (fun _ hk => hk) trivial (Below.refl _ _) (Nat.le_refl _) (by simp) ?_; (case hd => rfl); (case hg => rfl); (case hr => first | (go_simp; done) | (go_simp; rfl)); (case hp => exact (Reps.one (show Kd.M Kd.string _ _ _ (⟨#[97]⟩ : ByteArray) [.string (⟨#[97]⟩ : ByteArray)] from rfl) (Reps.one (show Kd.M Kd.string _ _ _ (⟨#[98]⟩ : ByteArray) [.string (⟨#[98]⟩ : ByteArray)] from rfl) (Reps.one (show Kd.M Kd.string _ _ _ (⟨#[99]⟩ : ByteArray) [.string (⟨#[99]⟩ : ByteArray)] from rfl) (Reps.one (show Kd.M Kd.string _ _ _ (⟨#[106, 48]⟩ : ByteArray) [.string (⟨#[106, 48]⟩ : ByteArray)] from rfl) (Reps.one (show Kd.M Kd.string _ _ _ (⟨#[106, 49]⟩ : ByteArray) [.string (⟨#[106, 49]⟩ : ByteArray)] from rfl) (Reps.one (show Kd.M Kd.string _ _ _ (⟨#[106, 43]⟩ : ByteArray) [.string (⟨#[106, 43]⟩ : ByteArray)] from rfl) (Reps.one (show Kd.M Kd.string _ _ _ (⟨#[115, 48]⟩ : ByteArray) [.string (⟨#[115, 48]⟩ : ByteArray)] from rfl) (Reps.one (show Kd.M Kd.string _ _ _ (⟨#[115, 43]⟩ : ByteArray) [.string (⟨#[115, 43]⟩ : ByteArray)] from rfl) (Reps.none _ _)))))))))); intro v232 w3 ho4 hb hg_ hnew_; clear hg_ hnew_; (first | rw [← Ny231.out] at ho4 | (simp only [Int.reduceToNat] at ho4; rw [← Ny231.out] at ho4)); have HO233 := aM (Kd.R_lower ho4 (keep_size (w := w) (g := g) (row := none) (q1_ HK))); replace HK := aM (KeepBut.trans (q1_ HK) (KeepBut.of_below hb g none) (.inl rfl)); replace HB := aM (below_step (q3_ HB HI0) hb); replace HI0 := aM (IsS139.below (q2_ HI0) hb); clear hb ho4; obtain ⟨Ao5, co5, eo5⟩ := Kd.R_slice HO233.out; subst eo5) | ((with_reducible refine gate_callee (f := 118) rfl ?_); refine gL (some 5) Try.func118 #[.pointer (some ⟨g, 0, none⟩), .slice Ao5 y231.length co5] ?_; (with_reducible refine (spec_l01Pick.calls g s0_0 s0_1 s0_2 _ _ y231 t234 t235 t236 w0 _ ?side1 ?side2 ?side3 ?side4 ?side5 A2.out).mono ?_); (case side1 => exact q2_ HI0); (case side2 => exact q3_ HB HI0); (case side3 => repeat (first | exact (Kd.R_reads' HO233.out).2.2 | (with_reducible refine cA ?_ _) | (with_reducible refine cN ?_ _) | (with_reducible refine cD ?_))); (case side4 => exact (Kd.R_reads' HO233.out).2.1); (case side5 => exact far_slice (IsS139.own_ne HI0.out HO233.out (by decide))); rintro e w6 ⟨rfl, hi, hb, hk⟩; refine ⟨_, rfl, ?_⟩; replace HO233 := aM (Kd.R_mono (Kd.R_keep (IsS139.apart (show IsS139 w0 _ g s0_0 s0_1 s0_2 from (q2_ HI0)) (uR HO233) (by decide)) hk (fun _ h => h.2)) (fun _ h => h.1)); replace HK := aM (KeepBut.trans (q1_ HK) hk (.inl rfl)); replace HB := aM (hb); replace HI0 := aM (hi); try clear hb hk hi))
 go_ret
 exact ⟨by first | rfl | (simp [errW_none, errW_some] <;> rfl) | (simp [*, errW_none, errW_some] <;> rfl), q2_ HI0, q3_ HB HI0, q1_ HK⟩

/-! ### spec_l01PickInt: function 123 -/
def spec_l01PickInt.f (s0_0 : List Int) (s0_1 : Int) (s0_2 : Int) (l1 : List Int) : Option (Int × Int × Int) := (spec_l01Below.f s0_0 s0_1 s0_2 (l1.length : Int)).bind fun bt237 => (if 0 ≤ bt237.1 then (if bt237.1 < (l1.length : Int) then (some (rd l1 bt237.1, bt237.2.1, bt237.2.2)) else (none)) else (none))
set_option maxHeartbeats 8000000 in
set_option maxRecDepth 100000 in
theorem spec_l01PickInt.calls (g : Nat) (s0_0 : List Int) (s0_1 : Int) (s0_2 : Int) (A1 : Option Addr) (c1 : Nat) (l1 : List Int) (r1 : Int) (r2 : Int) (r3 : Int) (w0 w : World) (hI : IsS139 w0 w g s0_0 s0_1 s0_2) (hB : Below w0.heap.size w0 w) (hr1 : Kd.C (Kd.int .i64) w A1 l1.length l1) (hc1 : l1.length ≤ c1) (hf1 : ∀ ad, A1 = some ad → 0 < l1.length → ad.block ≠ g) (h : spec_l01PickInt.f s0_0 s0_1 s0_2 l1 = some (r1, r2, r3)) :
 Calls Try.prog 123 #[.pointer (some ⟨g, 0, none⟩), .slice A1 l1.length c1] w fun e w' => e = .returned (.int .i64 r1) ∧ IsS139 w0 w' g s0_0 r2 r3 ∧ Below w0.heap.size w0 w' ∧ KeepBut w w' g none := by
 have HR1 := aM hr1
 have HC1 := aM hc1
 clear hr1 hc1
 have HI0 := aM hI
 have HK := aM (KeepBut.refl w g none)
 have HL := aM hB.size
 clear hI
 have HW0 := aM hB.size
 have HB := aM hB
 clear hB
 have H : ((spec_l01Below.f s0_0 s0_1 s0_2 (l1.length : Int)).bind fun bt237 => (if 0 ≤ bt237.1 then (if bt237.1 < (l1.length : Int) then (some (rd l1 bt237.1, bt237.2.1, bt237.2.2)) else (none)) else (none))) = some (r1, r2, r3) := h
 clear h
 replace H := Option.bind_eq_some_iff.mp H
 obtain ⟨⟨t237, t238, t239⟩, A30, H⟩ := H
 replace H : (if 0 ≤ t237 then (if t237 < (l1.length : Int) then (some (rd l1 t237, t238, t239)) else (none)) else (none)) = some (r1, r2, r3) := H
 have A3 := aM A30
 clear A30
 by_cases c4 : 0 ≤ t237
 ·rw [if_pos c4] at H
  have c4b0 : decide (0 ≤ t237) = true := decide_eq_true c4
  clear c4
  by_cases c5 : t237 < (l1.length : Int)
  ·rw [if_pos c5] at H
   have c5b0 : decide (t237 < (l1.length : Int)) = true := decide_eq_true c5
   clear c5
   simp only [Option.some.injEq, Prod.mk.injEq] at H
   obtain ⟨rfl, rfl, rfl⟩ := H
   go_enter Try.func123, Try.ntmps123
   go_wp2_with (first | ((with_reducible refine gate_callee (f := 77) rfl ?_); refine gL (some 9) Try.func77 #[.pointer (some ⟨g, 0, none⟩), .int .i64 (l1.length : Int)] ?_; (with_reducible refine (spec_l01Below.calls g s0_0 s0_1 s0_2 (l1.length : Int) t237 t238 t239 w0 _ ?side1 ?side2 A3.out).mono ?_); (case side1 => exact q2_ HI0); (case side2 => exact q3_ HB HI0); rintro e w6 ⟨rfl, hi, hb, hk⟩; refine ⟨_, rfl, ?_⟩; replace HK := aM (KeepBut.trans (q1_ HK) hk (.inl rfl)); replace HB := aM (hb); replace HI0 := aM (hi); try clear hb hk hi; have p240 : 0 ≤ (t237 : Int) := of_decide_eq_true (by first | (with_reducible assumption) | assumption); have q240 : t237 < (l1.length : Int) := of_decide_eq_true (by first | (with_reducible assumption) | assumption); obtain ⟨ad240, e240, hx240_0⟩ := Kd.at_int HR1.out t237 p240 q240; cases e240; replace hx240_0 := keep_cell HK.out hx240_0 (by first | (rw [add_block]; exact hf1 _ rfl (by omega)) | exact hf1 _ rfl (by omega) | exact hf1 ad240 rfl (by omega)); replace p240 := eq_true p240; replace q240 := eq_true q240))
   go_ret
   exact ⟨by first | rfl | (simp [errW_none, errW_some] <;> rfl) | (simp [*, errW_none, errW_some] <;> rfl), q2_ HI0, q3_ HB HI0, q1_ HK⟩
  ·rw [if_neg c5] at H
   exact absurd H (by simp)
 ·rw [if_neg c4] at H
  exact absurd H (by simp)

/-! ### spec_l01Figure: function 136 -/
def spec_l01Figure.f (a0 : Int) : Option (Int) := if a0 < 10 then (some ((wrap64 (48 + a0)) % 256)) else (some ((wrap64 ((wrap64 (97 + a0)) - 10)) % 256))
set_option maxHeartbeats 8000000 in
set_option maxRecDepth 100000 in
theorem spec_l01Figure.calls (a0 : Int) (r : Int) (w : World) (h : spec_l01Figure.f a0 = some r) :
 Calls Try.prog 136 #[.int .i64 a0] w fun e w' => e = .returned (.int .u8 r) ∧ Drawn0 w w' := by
 have H : (if a0 < 10 then (some ((wrap64 (48 + a0)) % 256)) else (some ((wrap64 ((wrap64 (97 + a0)) - 10)) % 256))) = some r := h
 clear h
 by_cases c2 : a0 < 10
 ·rw [if_pos c2] at H
  have c2b0 : decide (a0 < 10) = true := decide_eq_true c2
  clear c2
  obtain rfl := Option.some.inj H
  go_enter Try.func136, Try.ntmps136
  go_wp2
  go_ret
  exact ⟨by first | rfl | (simp; done) | (simp [*]; done), by repeat (first | exact Drawn0.refl _ | apply Drawn0.step)⟩
 ·rw [if_neg c2] at H
  have c2b0 : decide (a0 < 10) = false := decide_eq_false c2
  clear c2
  obtain rfl := Option.some.inj H
  go_enter Try.func136, Try.ntmps136
  go_wp2
  go_ret
  exact ⟨by first | rfl | (simp; done) | (simp [*]; done), by repeat (first | exact Drawn0.refl _ | apply Drawn0.step)⟩

end Go.Proofs.Ytidfhfaekdahpaa.QFnActs
