-- Own work (wip/turnprint.py over the kit's print).
import Derived.Test.YtidfhfaekdahpaaQFnExactDoActsx0
import Derived.Test.YtidfhfaekdahpaaQFnExactDoActsx2
import Derived.Test.YtidfhfaekdahpaaQFnExactDoActsx12
import Derived.Test.YtidfhfaekdahpaaQFnExactDoActsx13
import Derived.Test.YtidfhfaekdahpaaQFnExactDoActsx14
namespace Go.Proofs.Ytidfhfaekdahpaa.QFnExactDoActs
open Go.RowKit Go.Proofs.YtidfhfaekdahpaaW.PrintWords Go.Proofs.YtidfhfaekdahpaaW.PrintLast
set_option linter.unusedVariables false
set_option linter.unusedSimpArgs false

/-! ### impl_DoActs: function 44 (given by the session) -/
theorem impl_DoActs.size30 : (Try.prog.info? 30).map (·.size) = some 1 := by kernel_rfl
theorem impl_DoActs.size55 : (Try.prog.info? 55).map (·.size) = some 4 := by kernel_rfl
theorem impl_DoActs.gkeep {w w' : World} {g k : Nat} {x : Obj} (hg : w.grownBy w' (some g)) (hk : w.heap[k]? = some x) (hne : k ≠ g) : w'.heap[k]? = some x := (hg.block k (blk_lt hk) (fun e => hne (by injection e))).trans hk
def impl_DoActs.goF : List S55 → Nat → List S45 → Option (List S45 × Int)
 | [], n, l => some (l, (n : Int))
 | a :: q, n, l => (impl_Disk_do.doF a.f0 a.f1 a.f2 a.f3 l).bind fun p => if p.2 = true then impl_DoActs.goF q (n + 1) p.1 else some (l, (n : Int))
def impl_DoActs.f (k : Nat) (l0_0 : List S45) (l1 : List S55) : Option (List S45 × Int) :=
 if l0_0.length ≤ 1099511627775 ∧ l1.length ≤ 4611686018427387904 then (impl_DiskOk.f k l0_0).bind fun t => if t = true then impl_DoActs.goF l1 0 l0_0 else some (l0_0, 0) else none
theorem impl_DoActs.mono : ∀ a0 a1 k, LeO (impl_DoActs.f k a0 a1) (impl_DoActs.f (k + 1) a0 a1) := by
 intro a0 a1 k
 unfold impl_DoActs.f
 split
 ·exact LeO.bind (impl_DiskOk.mono _ _) (fun _ => LeO.refl _)
 ·exact LeO.refl _
theorem impl_DoActs.goF_at {l1 : List S55} {i : Nat} {n : Nat} {l : List S45} (h : i < l1.length) : impl_DoActs.goF (l1.drop i) n l = (impl_Disk_do.doF (l1.getD i z55).f0 (l1.getD i z55).f1 (l1.getD i z55).f2 (l1.getD i z55).f3 l).bind fun p => if p.2 = true then impl_DoActs.goF (l1.drop (i + 1)) (n + 1) p.1 else some (l, (n : Int)) := by
 have e : l1.drop i = l1.getD i z55 :: l1.drop (i + 1) := by
  rw [List.drop_eq_getElem_cons h, List.getD_eq_getElem?_getD, List.getElem?_eq_getElem h]
  rfl
 rw [e, impl_DoActs.goF]
theorem impl_DoActs.doF_len {a : Int} {b c d : ByteArray} {l : List S45} {p : List S45 × Bool} (h : impl_Disk_do.doF a b c d l = some p) : l.length ≤ 1099511627775 := by
 unfold impl_Disk_do.doF at h
 split at h
 ·assumption
 ·cases h
set_option maxHeartbeats 4000000 in
set_option maxRecDepth 100000 in
theorem impl_DoActs.calls (k : Nat) (A0_0 : Option Addr) (c0_0 : Nat) (l0_0 : List S45) (A1 : Option Addr) (c1 : Nat) (l1 : List S55) (r1 : List S45) (r2 : Int) (w : World) (hr0_0 : Kd.C k45 w A0_0 l0_0.length l0_0) (hc0_0 : l0_0.length ≤ c0_0) (hr1 : Kd.C k55 w A1 l1.length l1) (hc1 : l1.length ≤ c1) (h : impl_DoActs.f k l0_0 l1 = some (r1, r2)) :
  Calls Try.prog 44 #[.agg #[.slice A0_0 l0_0.length c0_0], .slice A1 l1.length c1] w fun e w' => ∃ v0_ : Value, e = .returned (.tuple #[.agg #[v0_], .int .i64 r2]) ∧ Kd.R k45 45 w' w.heap.size (fun _ => True) v0_ r1 ∧ Below w.heap.size w w' := by
 have HR0 := Aside0.mk hr0_0
 have HC0 := Aside0.mk hc0_0
 have HR1 := Aside0.mk hr1
 clear hr0_0 hc0_0 hr1
 unfold impl_DoActs.f at h
 by_cases hl : l0_0.length ≤ 1099511627775 ∧ l1.length ≤ 4611686018427387904
 case neg => rw [if_neg hl] at h; cases h
 rw [if_pos hl] at h
 have HL := Aside0.mk hl
 clear hl
 have HF : Aside0 (impl_copyDisk.f l0_0 = some l0_0) := ⟨by
  have h1 := HL.out.1
  have h2 : l0_0.length ≤ 1099511627776 := by omega
  simp [impl_copyDisk.f, impl_File_119.f, h2]⟩
 obtain ⟨t, hA, H⟩ := Option.bind_eq_some_iff.mp h
 clear h
 have HA := Aside0.mk hA
 clear hA
 cases t with
 | false =>
  obtain ⟨rfl, rfl⟩ : l0_0 = r1 ∧ 0 = r2 := by simpa using H
  clear H
  go_enter Try.func44, Try.ntmps44
  go_wp2_with (first | ((with_reducible refine gate_dst (N := 2) rfl ?_); refine bxE 2 #[.slice A0_0 l0_0.length c0_0] 30 ?_; intro gb hg_ w1 hbox_ hb_; have H1 := Aside0.mk hb_; have BD1 := Aside0.mk hbox_; have GB1 := Aside0.mk hg_; clear hb_ hbox_ hg_; have hczd := czA BD1.out 0 (.slice A0_0 l0_0.length c0_0)) | ((with_reducible refine gate_dst (N := 4) rfl ?_); refine bxE 4 #[.slice none 0 0] 30 ?_; intro gr hg_ w3 hbox_ hb_; have H3 := Aside0.mk hb_; have BR3 := Aside0.mk hbox_; have GR3 := Aside0.mk hg_; clear hb_ hbox_ hg_; have BD3 := Aside0.mk (blk_below BD1.out H3.out); have HB3 := Aside0.mk (below_step H1.out H3.out); have hczd := czA BD3.out 0 (.slice A0_0 l0_0.length c0_0); have hczr := czA BR3.out 0 (.slice none 0 0); have hfzr := blk_frozen BR3.out 0) | (go_at_call 82; refine (impl_copyDisk.calls _ _ l0_0 l0_0 _ (Kd.C_below HR0.out HB3.out) HC0.out HF.out).mono ?_; rintro e w4 ⟨v1, rfl, ho_, hb_⟩; have HO4 := Aside0.mk (Kd.R_lower ho_ (below_size HB3.out)); have HB4 := Aside0.mk (below_step HB3.out hb_); have BD4 := Aside0.mk (blk_below BD3.out hb_); have BR4 := Aside0.mk (blk_below BR3.out hb_); clear ho_ hb_; obtain ⟨Ao, co, eo⟩ := Kd.R_slice HO4.out; subst eo) | ((with_reducible refine gate_dst (N := 6) rfl ?_); refine bxE 6 #[.slice none 0 0] 30 ?_; intro go hg_ w5 hbox_ hb_; have H5 := Aside0.mk hb_; have BO5 := Aside0.mk hbox_; have GO5 := Aside0.mk hg_; clear hb_ hbox_ hg_; have BD5 := Aside0.mk (blk_below BD4.out H5.out); have BR5 := Aside0.mk (blk_below BR4.out H5.out); have HB5 := Aside0.mk (below_step HB4.out H5.out); have HO5 := Aside0.mk (Kd.R_below HO4.out H5.out); have HNd := Aside0.mk (show gb ≠ go by have h1 := GO5.out; have h2 := blk_lt BD4.out; omega); have HNr := Aside0.mk (show gr ≠ go by have h1 := GO5.out; have h2 := blk_lt BR4.out; omega); have HGO := Aside0.mk (show w.heap.size ≤ go by have h1 := GO5.out; have h2 := below_size HB4.out; omega)) | (refine store_blk rfl rfl 30 (.tmp 6) (.tmp 11) rfl (g := go) (off := 0) (e := 30) (cur := #[.slice none 0 0]) (.agg #[.slice Ao l0_0.length co]) [.slice Ao l0_0.length co] ?sp ?sx rfl impl_DoActs.size30 BO5.out (by simp) (fun q hq => by simp at hq; subst hq; rfl) ?_; (case sp => rfl); (case sx => first | rfl | (simp [Act.eval]; done)); intro w6 cur_ h_ hl_ hg_; obtain rfl := impl_Disk_do.cur_eq hl_; have BO6 : Aside0 (w6.heap[go]? = some (.cells #[.slice Ao l0_0.length co] 30 (0, 0))) := ⟨h_⟩; have BD6 := Aside0.mk (impl_DoActs.gkeep hg_ BD5.out HNd.out); have BR6 := Aside0.mk (impl_DoActs.gkeep hg_ BR5.out HNr.out); have HO6 := Aside0.mk (impl_Disk_do.R_blk HO5.out (fun g hg2 => by obtain ⟨cells, hcells⟩ := Kd.R_typed HO5.out g hg2; exact hg_.block g (blk_lt hcells) (fun e => Kd.R_ne HO5.out BO5.out (by decide) (by rw [hg2, ← e])))); have HB6 := Aside0.mk (HB5.out.grown hg_ (below_size HB5.out) (fun k hk => by injection hk with hk; rw [← hk]; exact HGO.out)); clear h_ hl_ hg_; have hczd := czA BD6.out 0 (.slice A0_0 l0_0.length c0_0); have hczr := czA BR6.out 0 (.slice none 0 0); have hfzr := blk_frozen BR6.out 0; have hczo := czA BO6.out 0 (.slice Ao l0_0.length co); have hfzo := blk_frozen BO6.out 0) | (go_at_call 21; refine (impl_DiskOk.calls k _ _ l0_0 _ _ (Kd.C_below HR0.out HB6.out) HC0.out HA.out).mono ?_; rintro e w7 ⟨rfl, hb_⟩; have HB7 := Aside0.mk (below_step HB6.out hb_); have BR7 := Aside0.mk (blk_below BR6.out hb_); have BO7 := Aside0.mk (blk_below BO6.out hb_); have HO7 := Aside0.mk (Kd.R_below HO6.out hb_); clear hb_ hczd; have hczr := czA BR7.out 0 (.slice none 0 0); have hfzr := blk_frozen BR7.out 0; have hczo := czA BO7.out 0 (.slice Ao l0_0.length co); have hfzo := blk_frozen BO7.out 0))
  have hgr : w.heap.size ≤ gr := by have h2 := GR3.out; have h1 := below_size H1.out; omega
  refine bodyPost_ret (results_ct rfl _ _ gr 30 #[.slice Ao l0_0.length co] (0, 0) _ rfl (blk_put (cs := #[.slice none 0 0]) BR7.out 0 _ rfl) Try.underlying30 rfl (by kernel_rfl)) rfl ?_
  exact ⟨_, rfl, Kd.R_mono (Kd.R_far (p := ⟨gr, 0, none⟩) (Kd.R_types HO7.out BR7.out (by decide)) (fun _ hk => hk.2) (.slice Ao l0_0.length co)) (fun _ hk => trivial), HB7.out.setCell hgr _⟩
 | true =>
  rw [if_pos rfl] at H
  have HH := Aside0.mk H
  clear H
  go_enter Try.func44, Try.ntmps44
  go_wp2_with (first | ((with_reducible refine gate_dst (N := 2) rfl ?_); refine bxE 2 #[.slice A0_0 l0_0.length c0_0] 30 ?_; intro gb hg_ w1 hbox_ hb_; have H1 := Aside0.mk hb_; have BD1 := Aside0.mk hbox_; have GB1 := Aside0.mk hg_; clear hb_ hbox_ hg_; have hczd := czA BD1.out 0 (.slice A0_0 l0_0.length c0_0)) | ((with_reducible refine gate_dst (N := 4) rfl ?_); refine bxE 4 #[.slice none 0 0] 30 ?_; intro gr hg_ w3 hbox_ hb_; have H3 := Aside0.mk hb_; have BR3 := Aside0.mk hbox_; have GR3 := Aside0.mk hg_; clear hb_ hbox_ hg_; have BD3 := Aside0.mk (blk_below BD1.out H3.out); have HB3 := Aside0.mk (below_step H1.out H3.out); have hczd := czA BD3.out 0 (.slice A0_0 l0_0.length c0_0); have hczr := czA BR3.out 0 (.slice none 0 0); have hfzr := blk_frozen BR3.out 0) | (go_at_call 82; refine (impl_copyDisk.calls _ _ l0_0 l0_0 _ (Kd.C_below HR0.out HB3.out) HC0.out HF.out).mono ?_; rintro e w4 ⟨v1, rfl, ho_, hb_⟩; have HO4 := Aside0.mk (Kd.R_lower ho_ (below_size HB3.out)); have HB4 := Aside0.mk (below_step HB3.out hb_); have BD4 := Aside0.mk (blk_below BD3.out hb_); have BR4 := Aside0.mk (blk_below BR3.out hb_); clear ho_ hb_; obtain ⟨Ao, co, eo⟩ := Kd.R_slice HO4.out; subst eo) | ((with_reducible refine gate_dst (N := 6) rfl ?_); refine bxE 6 #[.slice none 0 0] 30 ?_; intro go hg_ w5 hbox_ hb_; have H5 := Aside0.mk hb_; have BO5 := Aside0.mk hbox_; have GO5 := Aside0.mk hg_; clear hb_ hbox_ hg_; have BD5 := Aside0.mk (blk_below BD4.out H5.out); have BR5 := Aside0.mk (blk_below BR4.out H5.out); have HB5 := Aside0.mk (below_step HB4.out H5.out); have HO5 := Aside0.mk (Kd.R_below HO4.out H5.out); have HNd := Aside0.mk (show gb ≠ go by have h1 := GO5.out; have h2 := blk_lt BD4.out; omega); have HNr := Aside0.mk (show gr ≠ go by have h1 := GO5.out; have h2 := blk_lt BR4.out; omega); have HGO := Aside0.mk (show w.heap.size ≤ go by have h1 := GO5.out; have h2 := below_size HB4.out; omega)) | (refine store_blk rfl rfl 30 (.tmp 6) (.tmp 11) rfl (g := go) (off := 0) (e := 30) (cur := #[.slice none 0 0]) (.agg #[.slice Ao l0_0.length co]) [.slice Ao l0_0.length co] ?sp ?sx rfl impl_DoActs.size30 BO5.out (by simp) (fun q hq => by simp at hq; subst hq; rfl) ?_; (case sp => rfl); (case sx => first | rfl | (simp [Act.eval]; done)); intro w6 cur_ h_ hl_ hg_; obtain rfl := impl_Disk_do.cur_eq hl_; have BO6 : Aside0 (w6.heap[go]? = some (.cells #[.slice Ao l0_0.length co] 30 (0, 0))) := ⟨h_⟩; have BD6 := Aside0.mk (impl_DoActs.gkeep hg_ BD5.out HNd.out); have BR6 := Aside0.mk (impl_DoActs.gkeep hg_ BR5.out HNr.out); have HO6 := Aside0.mk (impl_Disk_do.R_blk HO5.out (fun g hg2 => by obtain ⟨cells, hcells⟩ := Kd.R_typed HO5.out g hg2; exact hg_.block g (blk_lt hcells) (fun e => Kd.R_ne HO5.out BO5.out (by decide) (by rw [hg2, ← e])))); have HB6 := Aside0.mk (HB5.out.grown hg_ (below_size HB5.out) (fun k hk => by injection hk with hk; rw [← hk]; exact HGO.out)); clear h_ hl_ hg_; have hczd := czA BD6.out 0 (.slice A0_0 l0_0.length c0_0); have hczr := czA BR6.out 0 (.slice none 0 0); have hfzr := blk_frozen BR6.out 0; have hczo := czA BO6.out 0 (.slice Ao l0_0.length co); have hfzo := blk_frozen BO6.out 0) | (go_at_call 21; refine (impl_DiskOk.calls k _ _ l0_0 _ _ (Kd.C_below HR0.out HB6.out) HC0.out HA.out).mono ?_; rintro e w7 ⟨rfl, hb_⟩; have HB7 := Aside0.mk (below_step HB6.out hb_); have BR7 := Aside0.mk (blk_below BR6.out hb_); have BO7 := Aside0.mk (blk_below BO6.out hb_); have HO7 := Aside0.mk (Kd.R_below HO6.out hb_); clear hb_ hczd; have hczr := czA BR7.out 0 (.slice none 0 0); have hfzr := blk_frozen BR7.out 0; have hczo := czA BO7.out 0 (.slice Ao l0_0.length co); have hfzo := blk_frozen BO7.out 0))
  have HGR := Aside0.mk (show w.heap.size ≤ gr by have h2 := GR3.out; have h1 := below_size H1.out; omega)
  clear hczr hfzr hczo hfzo
  go_loopw [18] (fun v18 wr => ∃ (i : Nat) (li : List S45) (A6 : Option Addr) (c6 : Nat), i ≤ l1.length ∧ v18 = .int .i64 (i : Int) ∧ Aside0 (impl_DoActs.goF (l1.drop i) i li = some (r1, r2)) ∧ Aside0 (wr.heap[go]? = some (.cells #[.slice A6 li.length c6] 30 (0, 0))) ∧ Aside0 (wr.heap[gr]? = some (.cells #[.slice none 0 0] 30 (0, 0))) ∧ Aside0 (Kd.R k45 45 wr w.heap.size (fun _ => True) (.slice A6 li.length c6) li) ∧ Aside0 (Below w.heap.size w wr)) (fun v18 _ => l1.length - (intOf v18).toNat)
  case atStart => exact ⟨0, l0_0, Ao, co, Nat.zero_le _, rfl, by rw [List.drop_zero]; exact HH, BO7, BR7, HO7, HB7⟩
  case round =>
   clear HH HB7 BR7 BO7 HO7
   obtain ⟨i, li, A6, c6, hi, rfl, HH, BO, BR, HO, HB⟩ := hrel
   have hczo := czA BO.out 0 (.slice A6 li.length c6)
   have hfzo := blk_frozen BO.out 0
   have hl1 : l1.length ≤ 4611686018427387904 := HL.out.2
   by_cases hlt : i < l1.length
   ·obtain ⟨ad, rfl, h0, h1, h2, h3⟩ := at_T55 (Kd.C_below HR1.out HB.out) (i : Int) (by omega) (by omega)
    simp only [Int.toNat_natCast] at h0 h1 h2 h3
    have hx : rd_T55 l1 (i : Int) = l1.getD i z55 := rfl
    rw [hx] at h0 h1 h2 h3
    obtain ⟨⟨p1, p2⟩, hP, hQ⟩ := Option.bind_eq_some_iff.mp ((impl_DoActs.goF_at hlt).symm.trans HH.out)
    have HP := Aside0.mk hP
    have HQ := Aside0.mk hQ
    clear HH hP hQ hx
    generalize l1.getD i z55 = x at h0 h1 h2 h3 HP
    obtain ⟨x0, x1, x2, x3⟩ := x
    dsimp only at h0 h1 h2 h3 HP
    have HFi : Aside0 (impl_copyDisk.f li = some li) := ⟨by
     have h1 := impl_DoActs.doF_len HP.out
     have h2 : li.length ≤ 1099511627776 := by omega
     simp [impl_copyDisk.f, impl_File_119.f, h2]⟩
    have hp : (i : Int) < (l1.length : Int) := by omega
    go_wp2_with (first | ((with_reducible refine gate_dst (N := 8) rfl ?_); refine box_event ?hg (N := 8) ?hd (cs := #[.int .i64 0, .string ⟨#[]⟩, .string ⟨#[]⟩, .string ⟨#[]⟩]) (t := 55) ?hr ?_; (case hd => rfl); (case hg => rfl); (case hr => first | (go_simp; done) | (go_simp; rfl)); intro ga hg_ u1 hbox_ hb_; have K1 := Aside0.mk hb_; have CA1 := Aside0.mk hbox_; have KG1 := Aside0.mk hg_; clear hb_ hbox_ hg_; have CO1 := Aside0.mk (blk_below BO.out K1.out); have CR1 := Aside0.mk (blk_below BR.out K1.out); have KO1 := Aside0.mk (Kd.R_below HO.out K1.out); have KB1 := Aside0.mk (below_step HB.out K1.out); have hca0 := czA CA1.out 0 (.int .i64 0); have hca1 := czA CA1.out 1 (.string ⟨#[]⟩); have hca2 := czA CA1.out 2 (.string ⟨#[]⟩); have hca3 := czA CA1.out 3 (.string ⟨#[]⟩); have hfa := blk_frozen CA1.out 0; have hczo := czA CO1.out 0 (.slice A6 li.length c6); have hfzo := blk_frozen CO1.out 0) | (refine store_blk rfl rfl 55 (.tmp 8) (.tmp 22) rfl (g := ga) (off := 0) (e := 55) (cur := #[.int .i64 0, .string ⟨#[]⟩, .string ⟨#[]⟩, .string ⟨#[]⟩]) (.agg #[.int .i64 x0, .string x1, .string x2, .string x3]) [.int .i64 x0, .string x1, .string x2, .string x3] ?sp ?sx rfl impl_DoActs.size55 CA1.out (by simp) (fun q hq => by simp at hq; rcases hq with rfl | rfl | rfl | rfl <;> rfl) ?_; (case sp => rfl); (case sx => first | rfl | (simp [Act.eval]; done)); intro u2 cur_ h_ hl_ hg_; obtain rfl := impl_Disk_do.cur_eq hl_; have CA2 : Aside0 (u2.heap[ga]? = some (.cells #[.int .i64 x0, .string x1, .string x2, .string x3] 55 (0, 0))) := ⟨h_⟩; have CO2 := Aside0.mk (impl_DoActs.gkeep hg_ CO1.out (fun e => by have h1 := CO1.out; rw [e, CA1.out] at h1; simp at h1)); have CR2 := Aside0.mk (impl_DoActs.gkeep hg_ CR1.out (fun e => by have h1 := CR1.out; rw [e, CA1.out] at h1; simp at h1)); have KO2 := Aside0.mk (impl_Disk_do.R_blk KO1.out (fun g hg2 => by obtain ⟨cells, hcells⟩ := Kd.R_typed KO1.out g hg2; exact hg_.block g (blk_lt hcells) (fun e => Kd.R_ne KO1.out CA1.out (by decide) (by rw [hg2, ← e])))); have KB2 := Aside0.mk (KB1.out.grown hg_ (below_size KB1.out) (fun k hk => by injection hk with hk; rw [← hk]; have h1 := KG1.out; have h2 := below_size HB.out; omega)); clear h_ hl_ hg_; have hca0 := czA CA2.out 0 (.int .i64 x0); have hca1 := czA CA2.out 1 (.string x1); have hca2 := czA CA2.out 2 (.string x2); have hca3 := czA CA2.out 3 (.string x3); have hczo := czA CO2.out 0 (.slice A6 li.length c6); have hfzo := blk_frozen CO2.out 0) | (go_at_call 82; refine (impl_copyDisk.calls _ _ li li _ (Kd.R_reads' KO2.out).2.2 (Kd.R_reads' KO2.out).2.1 HFi.out).mono ?_; rintro e u3 ⟨v1, rfl, ho_, hb_⟩; have KN3 := Aside0.mk ho_; have KB3 := Aside0.mk (below_step KB2.out hb_); have CA3 := Aside0.mk (blk_below CA2.out hb_); have CO3 := Aside0.mk (blk_below CO2.out hb_); have CR3 := Aside0.mk (blk_below CR2.out hb_); have KO3 := Aside0.mk (Kd.R_below KO2.out hb_); have KS3 := Aside0.mk (show u2.heap.size ≤ u3.heap.size from hb_.size); clear ho_ hb_; obtain ⟨An, cn, en⟩ := Kd.R_slice KN3.out; subst en) | ((with_reducible refine gate_dst (N := 9) rfl ?_); refine bxE 9 #[.slice none 0 0] 30 ?_; intro gn hg_ u4 hbox_ hb_; have K4 := Aside0.mk hb_; have CN4 := Aside0.mk hbox_; have KG4 := Aside0.mk hg_; clear hb_ hbox_ hg_; have CA4 := Aside0.mk (blk_below CA3.out K4.out); have CO4 := Aside0.mk (blk_below CO3.out K4.out); have CR4 := Aside0.mk (blk_below CR3.out K4.out); have KO4 := Aside0.mk (Kd.R_below KO3.out K4.out); have KN4 := Aside0.mk (Kd.R_below KN3.out K4.out); have KB4 := Aside0.mk (below_step KB3.out K4.out); have NO := Aside0.mk (show go ≠ gn by have h1 := KG4.out; have h2 := blk_lt CO3.out; omega); have NR := Aside0.mk (show gr ≠ gn by have h1 := KG4.out; have h2 := blk_lt CR3.out; omega); have KGN := Aside0.mk (show w.heap.size ≤ gn by have h1 := KG4.out; have h2 := below_size KB3.out; omega)) | (refine store_blk rfl rfl 30 (.tmp 9) (.tmp 24) rfl (g := gn) (off := 0) (e := 30) (cur := #[.slice none 0 0]) (.agg #[.slice An li.length cn]) [.slice An li.length cn] ?sp ?sx rfl impl_DoActs.size30 CN4.out (by simp) (fun q hq => by simp at hq; subst hq; rfl) ?_; (case sp => rfl); (case sx => first | rfl | (simp [Act.eval]; done)); intro u5 cur_ h_ hl_ hg_; obtain rfl := impl_Disk_do.cur_eq hl_; have CN5 : Aside0 (u5.heap[gn]? = some (.cells #[.slice An li.length cn] 30 (0, 0))) := ⟨h_⟩; have CO5 := Aside0.mk (impl_DoActs.gkeep hg_ CO4.out NO.out); have CR5 := Aside0.mk (impl_DoActs.gkeep hg_ CR4.out NR.out); have CA5 := Aside0.mk (impl_DoActs.gkeep hg_ CA4.out (fun e => by have h1 := CA4.out; rw [e, CN4.out] at h1; simp at h1)); have KO5 := Aside0.mk (impl_Disk_do.R_blk KO4.out (fun g hg2 => by obtain ⟨cells, hcells⟩ := Kd.R_typed KO4.out g hg2; exact hg_.block g (blk_lt hcells) (fun e => Kd.R_ne KO4.out CN4.out (by decide) (by rw [hg2, ← e])))); have KN5 := Aside0.mk (impl_Disk_do.R_blk KN4.out (fun g hg2 => by obtain ⟨cells, hcells⟩ := Kd.R_typed KN4.out g hg2; exact hg_.block g (blk_lt hcells) (fun e => Kd.R_ne KN4.out CN4.out (by decide) (by rw [hg2, ← e])))); have KB5 := Aside0.mk (KB4.out.grown hg_ (below_size KB4.out) (fun k hk => by injection hk with hk; rw [← hk]; exact KGN.out)); clear h_ hl_ hg_; have hca0 := czA CA5.out 0 (.int .i64 x0); have hca1 := czA CA5.out 1 (.string x1); have hca2 := czA CA5.out 2 (.string x2); have hca3 := czA CA5.out 3 (.string x3)))
    go_at_call 87
    refine (impl_Disk_do.calls gn w.heap.size An cn li x0 x1 x2 x3 p1 p2 u5 (Kd.R_lower KN5.out (by have h1 := below_size KB2.out; exact h1)) CN5.out (below_size KB5.out) HP.out).mono ?_
    rintro e u6 ⟨rfl, v6, hb6, hr6, hf6⟩
    obtain ⟨A8, c8, rfl⟩ := Kd.R_slice hr6
    have KB6 := Aside0.mk (KB5.out.trans (impl_Disk_put.FrS.below hf6 (fun k hk => by
     rcases hk with hk | hk
     ·rw [hk]; exact KGN.out
     ·exact Nat.le_trans (below_size KB2.out) (Kd.R_base KN5.out k hk.symm)) (below_size KB5.out)))
    have CO6 := Aside0.mk ((hf6.block go (blk_lt CO5.out) (fun hk => by
     rcases hk with hk | hk
     ·exact NO.out hk
     ·exact Kd.R_ne KN5.out CO5.out (by decide) hk)).trans CO5.out)
    have CR6 := Aside0.mk ((hf6.block gr (blk_lt CR5.out) (fun hk => by
     rcases hk with hk | hk
     ·exact NR.out hk
     ·exact Kd.R_ne KN5.out CR5.out (by decide) hk)).trans CR5.out)
    have KO6 := Aside0.mk (impl_Disk_do.R_blk KO5.out (fun g hg2 => hf6.block g (by
     obtain ⟨cells, hcells⟩ := Kd.R_typed KO5.out g hg2
     exact blk_lt hcells) (fun hk => by
     rcases hk with hk | hk
     ·exact Kd.R_ne KO5.out CN5.out (by decide) (by rw [hg2, hk])
     ·have h1 := Kd.R_base KN5.out g hk.symm
      obtain ⟨cells, hcells⟩ := Kd.R_typed KO2.out g hg2
      have h2 := blk_lt hcells
      omega)))
    have KN6 := Aside0.mk hr6
    have hczn := czA hb6 0 (.slice A8 p1.length c8)
    have hczo := czA CO6.out 0 (.slice A6 li.length c6)
    have hfzo := blk_frozen CO6.out 0
    have hczr := czA CR6.out 0 (.slice none 0 0)
    have hfzr := blk_frozen CR6.out 0
    clear hb6 hr6 hf6 h0 h1 h2 h3
    cases p2 with
    | false =>
     obtain ⟨rfl, rfl⟩ : li = r1 ∧ (i : Int) = r2 := by simpa using HQ.out
     go_wp2
     refine bodyPost_ret (results_ct rfl _ _ gr 30 #[.slice A6 li.length c6] (0, 0) _ rfl (blk_put (cs := #[.slice none 0 0]) CR6.out 0 _ rfl) Try.underlying30 rfl (by kernel_rfl)) rfl ?_
     exact ⟨_, rfl, Kd.R_mono (Kd.R_far (p := ⟨gr, 0, none⟩) (Kd.R_types KO6.out CR6.out (by decide)) (fun _ hk => hk.2) (.slice A6 li.length c6)) (fun _ hk => trivial), KB6.out.setCell HGR.out _⟩
    | true =>
     have HQ2 := Aside0.mk (show impl_DoActs.goF (l1.drop (i + 1)) (i + 1) p1 = some (r1, r2) by simpa using HQ.out)
     clear HQ hczr hfzr
     go_wp2
     refine ⟨⟨i + 1, p1, A8, c8, by omega, by first | rfl | go_num, HQ2, ⟨blk_put (cs := #[.slice A6 li.length c6]) CO6.out 0 (.slice A8 p1.length c8) rfl⟩, ⟨(Below.heap_setCell u6 ⟨go, 0, none⟩ (.slice A8 p1.length c8) gr HNr.out).trans CR6.out⟩, ⟨Kd.R_mono (Kd.R_far (p := ⟨go, 0, none⟩) (Kd.R_types KN6.out CO6.out (by decide)) (fun _ hk => hk.2) (.slice A8 p1.length c8)) (fun _ hk => trivial)⟩, ⟨KB6.out.setCell HGO.out _⟩⟩, by simp [intOf]; omega⟩
   ·obtain rfl : i = l1.length := by omega
    obtain ⟨rfl, rfl⟩ : li = r1 ∧ (l1.length : Int) = r2 := by
     have h1 := HH.out
     rw [List.drop_of_length_le (Nat.le_refl _)] at h1
     simpa [impl_DoActs.goF] using h1
    have hczr := czA BR.out 0 (.slice none 0 0)
    have hfzr := blk_frozen BR.out 0
    go_wp2
    refine bodyPost_ret (results_ct rfl _ _ gr 30 #[.slice A6 li.length c6] (0, 0) _ rfl (blk_put (cs := #[.slice none 0 0]) BR.out 0 _ rfl) Try.underlying30 rfl (by kernel_rfl)) rfl ?_
    exact ⟨_, rfl, Kd.R_mono (Kd.R_far (p := ⟨gr, 0, none⟩) (Kd.R_types HO.out BR.out (by decide)) (fun _ hk => hk.2) (.slice A6 li.length c6)) (fun _ hk => trivial), HB.out.setCell HGR.out _⟩

/-! ### laws_eqAct: function 88 -/
def laws_eqAct.f (a0_0 : Int) (a0_1 : ByteArray) (a0_2 : ByteArray) (a0_3 : ByteArray) (a1_0 : Int) (a1_1 : ByteArray) (a1_2 : ByteArray) (a1_3 : ByteArray) : Option (Bool) := if a0_0 = a1_0 then (if a0_1.toList = a1_1.toList then (if a0_2.toList = a1_2.toList then (if a0_3.toList = a1_3.toList then (some true) else (some false)) else (some false)) else (some false)) else (some false)
set_option maxHeartbeats 8000000 in
set_option maxRecDepth 100000 in
theorem laws_eqAct.calls (a0_0 : Int) (a0_1 : ByteArray) (a0_2 : ByteArray) (a0_3 : ByteArray) (a1_0 : Int) (a1_1 : ByteArray) (a1_2 : ByteArray) (a1_3 : ByteArray) (r : Bool) (w : World) (h : laws_eqAct.f a0_0 a0_1 a0_2 a0_3 a1_0 a1_1 a1_2 a1_3 = some r) :
  Calls Try.prog 88 #[.agg #[.int .i64 a0_0, .string a0_1, .string a0_2, .string a0_3], .agg #[.int .i64 a1_0, .string a1_1, .string a1_2, .string a1_3]] w fun e w' => e = .returned (.bool r) ∧ Below w.heap.size w w' := by
 have hu55 := Try.underlying55
 have HB := aM (Below.refl w.heap.size w)
 have H : (if a0_0 = a1_0 then (if a0_1.toList = a1_1.toList then (if a0_2.toList = a1_2.toList then (if a0_3.toList = a1_3.toList then (some true) else (some false)) else (some false)) else (some false)) else (some false)) = some r := h
 clear h
 refine Classical.byCases (p := a0_0 = a1_0) (fun c3 => ?L1p) (fun c3 => ?L1n)
 case' L1p =>
  rw [if_pos c3] at H
  have c3b0 : (a0_0 == a1_0) = true := beq_iff_eq.mpr c3
  have c3b1 : (a0_0 != a1_0) = false := bne_eq_false_iff_eq.mpr c3
  clear c3
  refine Classical.byCases (p := a0_1.toList = a1_1.toList) (fun c4 => ?L2p) (fun c4 => ?L2n)
  case' L2p =>
   rw [if_pos c4] at H
   have c4b0 : (a0_1.toList == a1_1.toList) = true := beq_iff_eq.mpr c4
   have c4b1 : (a0_1.toList != a1_1.toList) = false := bne_eq_false_iff_eq.mpr c4
   clear c4
   refine Classical.byCases (p := a0_2.toList = a1_2.toList) (fun c5 => ?L3p) (fun c5 => ?L3n)
   case' L3p =>
    rw [if_pos c5] at H
    have c5b0 : (a0_2.toList == a1_2.toList) = true := beq_iff_eq.mpr c5
    have c5b1 : (a0_2.toList != a1_2.toList) = false := bne_eq_false_iff_eq.mpr c5
    clear c5
    refine Classical.byCases (p := a0_3.toList = a1_3.toList) (fun c6 => ?L4p) (fun c6 => ?L4n)
    case' L4p =>
     rw [if_pos c6] at H
     have c6b0 : (a0_3.toList == a1_3.toList) = true := beq_iff_eq.mpr c6
     have c6b1 : (a0_3.toList != a1_3.toList) = false := bne_eq_false_iff_eq.mpr c6
     clear c6
     obtain rfl := Option.some.inj H
    case' L4n =>
     rw [if_neg c6] at H
     have c6b0 : (a0_3.toList == a1_3.toList) = false := beq_eq_false_iff_ne.mpr c6
     have c6b1 : (a0_3.toList != a1_3.toList) = true := bne_iff_ne.mpr c6
     obtain rfl := Option.some.inj H
   case' L3n =>
    rw [if_neg c5] at H
    have c5b0 : (a0_2.toList == a1_2.toList) = false := beq_eq_false_iff_ne.mpr c5
    have c5b1 : (a0_2.toList != a1_2.toList) = true := bne_iff_ne.mpr c5
    obtain rfl := Option.some.inj H
  case' L2n =>
   rw [if_neg c4] at H
   have c4b0 : (a0_1.toList == a1_1.toList) = false := beq_eq_false_iff_ne.mpr c4
   have c4b1 : (a0_1.toList != a1_1.toList) = true := bne_iff_ne.mpr c4
   obtain rfl := Option.some.inj H
 case' L1n =>
  rw [if_neg c3] at H
  have c3b0 : (a0_0 == a1_0) = false := beq_eq_false_iff_ne.mpr c3
  have c3b1 : (a0_0 != a1_0) = true := bne_iff_ne.mpr c3
  obtain rfl := Option.some.inj H
 case L4p | L4n | L3n | L2n | L1n =>
  go_enter Try.func88, Try.ntmps88
  go_wp2_with (first | ((with_reducible refine gate_dst (N := 2) rfl ?_); refine bxE 2 #[.int .i64 a0_0, .string a0_1, .string a0_2, .string a0_3] 55 ?_; intro gb255 hg w7 hbox hb; have n0_ := aM (below_step (uL HB) hb); have n1_ := aM (hbox); have n2_ := szG hg (uL HB); have n3_ := szG hg (uL HB); clear HB; have HB := n0_; have BK255 := n1_; have GW255 := n2_; have GE255 := n3_; clear n0_ n1_ n2_ n3_; clear hb hbox hg) | ((with_reducible refine gate_dst (N := 3) rfl ?_); refine bxE 3 #[.int .i64 a1_0, .string a1_1, .string a1_2, .string a1_3] 55 ?_; intro gb256 hg w8 hbox hb; have n0_ := blkB BK255 hb; have n1_ := aM (below_step (uL HB) hb); have n2_ := aM (hbox); have n3_ := szG hg (uL HB); have n4_ := szG hg (uL HB); have n5_ := neL hg BK255; have n6_ := neG hg BK255; clear BK255; clear HB; have BK255 := n0_; have HB := n1_; have BK256 := n2_; have GW256 := n3_; have GE256 := n4_; have NB255_256 := n5_; have NB256_255 := n6_; clear n0_ n1_ n2_ n3_ n4_ n5_ n6_; clear hb hbox hg; have hnb9 := NB255_256.out; have hnc9 := NB256_255.out; have hcz10_0 := czA BK255.out 0 (.int .i64 a0_0); have hcz10_1 := czA BK255.out 1 (.string a0_1); have hcz10_2 := czA BK255.out 2 (.string a0_2); have hcz10_3 := czA BK255.out 3 (.string a0_3); have hfz10_0 := blk_frozen BK255.out 0; have hfz10_1 := blk_frozen BK255.out 1; have hfz10_2 := blk_frozen BK255.out 2; have hfz10_3 := blk_frozen BK255.out 3; have hcz11_0 := czA BK256.out 0 (.int .i64 a1_0); have hcz11_1 := czA BK256.out 1 (.string a1_1); have hcz11_2 := czA BK256.out 2 (.string a1_2); have hcz11_3 := czA BK256.out 3 (.string a1_3); have hfz11_0 := blk_frozen BK256.out 0; have hfz11_1 := blk_frozen BK256.out 1; have hfz11_2 := blk_frozen BK256.out 2; have hfz11_3 := blk_frozen BK256.out 3))
  go_ret
  exact ⟨by first | rfl | (simp [errW_none, errW_some] <;> rfl) | (simp [*, errW_none, errW_some] <;> rfl), uL HB⟩

/-! ### laws_eqActS: function 45 -/
def laws_eqActS.l0 : Nat → List (S55) → List (S55) → Int → Option (Bool)
 | 0, _, _, _ => none
 | k + 1, x0, x1, x5 => if x5 < (x0.length : Int) then (if 0 ≤ x5 then (if x5 < (x1.length : Int) then ((laws_eqAct.f ((rd_T55 x0 x5).f0) ((rd_T55 x0 x5).f1) ((rd_T55 x0 x5).f2) ((rd_T55 x0 x5).f3) ((rd_T55 x1 x5).f0) ((rd_T55 x1 x5).f1) ((rd_T55 x1 x5).f2) ((rd_T55 x1 x5).f3)).bind fun t259 => (if t259 = true then (laws_eqActS.l0 k x0 x1 (wrap64 (x5 + 1))) else (some false))) else (none)) else (none)) else (some true)
def laws_eqActS.f (k : Nat) (l0 : List (S55)) (l1 : List (S55)) : Option (Bool) := if (l0.length : Int) = (l1.length : Int) then (laws_eqActS.l0 k l0 l1 0) else (some false)
theorem laws_eqActS.mono_l : ∀ k, (∀ y0 y1 y2, LeO (laws_eqActS.l0 k y0 y1 y2) (laws_eqActS.l0 (k + 1) y0 y1 y2))
 | 0 => fun _ _ _ r h => by simp [laws_eqActS.l0] at h
 | k + 1 => by
  have ih0 := laws_eqActS.mono_l k
  ·intro y0 y1 y2
   unfold laws_eqActS.l0
   repeat' first
   | (with_reducible exact ih0 _ _ _)
   | (with_reducible exact LeO.refl _)
   | (with_reducible exact LeO.none _)
   | (with_reducible refine LeO.ite ?_ ?_)
   | (with_reducible refine LeO.bind ?_ (fun _ => ?_))
   | exact ih0 _ _ _
   | exact LeO.none _
   | refine LeO.ite ?_ ?_
   | refine LeO.bind ?_ (fun _ => ?_)
theorem laws_eqActS.mono : ∀ a0 a1 k, LeO (laws_eqActS.f k a0 a1) (laws_eqActS.f (k + 1) a0 a1) := by
 intro a0 a1 k
 have ih0 := laws_eqActS.mono_l k
 unfold laws_eqActS.f
 repeat' first
   | (with_reducible exact ih0 _ _ _)
   | (with_reducible exact LeO.refl _)
   | (with_reducible exact LeO.none _)
   | (with_reducible refine LeO.ite ?_ ?_)
   | (with_reducible refine LeO.bind ?_ (fun _ => ?_))
   | exact ih0 _ _ _
   | exact LeO.none _
   | refine LeO.ite ?_ ?_
   | refine LeO.bind ?_ (fun _ => ?_)
def laws_eqActS.T6 : Bool × List (List Nat × List Nat) := (true, [([], []), ([], []), ([0, 1], [0, 1]), ([2], [2]), ([], []), ([], []), ([4, 5], [4, 5]), ([6], [6]), ([3, 7], [3, 7]), ([8], [8])])
def laws_eqActS.B6 : List Nat := [0, 0, 3, 7, 0, 0, 48, 112, 255, 511]
theorem laws_eqActS.tab6 : rtab .any (opsOf Try.f45 6) = laws_eqActS.T6 := by kernel_rfl
theorem laws_eqActS.bits6 : waitsOk laws_eqActS.T6.2 laws_eqActS.B6 = true := by kernel_rfl
set_option maxHeartbeats 8000000 in
set_option maxRecDepth 100000 in
theorem laws_eqActS.calls (k : Nat) (A0 : Option Addr) (c0 : Nat) (l0 : List (S55)) (A1 : Option Addr) (c1 : Nat) (l1 : List (S55)) (r : Bool) (w : World) (hr0 : Kd.C k55 w A0 l0.length l0) (hc0 : l0.length ≤ c0) (hr1 : Kd.C k55 w A1 l1.length l1) (hc1 : l1.length ≤ c1) (h : laws_eqActS.f k l0 l1 = some r) :
  Calls Try.prog 45 #[.slice A0 l0.length c0, .slice A1 l1.length c1] w fun e w' => e = .returned (.bool r) ∧ Below w.heap.size w w' := by
 have hu55 := Try.underlying55
 have HR0 := aM hr0
 have HC0 := aM hc0
 clear hr0 hc0
 have HR1 := aM hr1
 have HC1 := aM hc1
 clear hr1 hc1
 have HB := aM (Below.refl w.heap.size w)
 have H : (if (l0.length : Int) = (l1.length : Int) then (laws_eqActS.l0 k l0 l1 0) else (some false)) = some r := h
 clear h
 by_cases c3 : (l0.length : Int) = (l1.length : Int)
 ·rw [if_pos c3] at H
  have c3b0 : ((l0.length : Int) == (l1.length : Int)) = true := beq_iff_eq.mpr c3
  have c3b1 : ((l0.length : Int) != (l1.length : Int)) = false := bne_eq_false_iff_eq.mpr c3
  have c3b2 : (l0.length == l1.length) = true := by first | simpa using c3 | (simp at c3 ⊢; omega)
  clear c3
  have H' := aM H
  clear H
  go_enter Try.func45, Try.ntmps45
  go_wp2
  go_loopg [5] k (fun kq v5 w' => ∃ (x5_1 : Int), v5 = .int .i64 x5_1 ∧ Aside0 (laws_eqActS.l0 kq l0 l1 x5_1 = some r) ∧ Aside0 (kq ≤ k) ∧ Aside0 (Below w.heap.size w w'))
  case atStart => exact ⟨(0), (by first | rfl | (simp; done) | (simp [*]; done)), H', ⟨Nat.le_refl _⟩, ⟨uL HB⟩⟩
  case round =>
   clear H'
   try clear c1
   try clear p2
   try clear c3
   try clear c3b0
   try clear c3b1
   try clear c3b2
   obtain ⟨x5_1, rfl, HA, HK1, HB⟩ := hrel
   cases gk with
   | zero => exact absurd HA.out (by simp [laws_eqActS.l0])
   | succ k1 =>
    have H := HA.out
    clear HA
    simp only [laws_eqActS.l0] at H
    by_cases c4 : x5_1 < (l0.length : Int)
    ·rw [if_pos c4] at H
     have c4b0 : decide (x5_1 < (l0.length : Int)) = true := decide_eq_true c4
     clear c4
     by_cases c5 : 0 ≤ x5_1
     ·rw [if_pos c5] at H
      have c5b0 : decide (0 ≤ x5_1) = true := decide_eq_true c5
      clear c5
      by_cases c6 : x5_1 < (l1.length : Int)
      ·rw [if_pos c6] at H
       have c6b0 : decide (x5_1 < (l1.length : Int)) = true := decide_eq_true c6
       clear c6
       replace H := Option.bind_eq_some_iff.mp H
       obtain ⟨t259, A70, H⟩ := H
       replace H : (if t259 = true then (laws_eqActS.l0 k1 l0 l1 (wrap64 (x5_1 + 1))) else (some false)) = some r := H
       have A7 := aM A70
       clear A70
       by_cases c8 : t259 = true
       ·subst c8
        have H1 : (laws_eqActS.l0 k1 l0 l1 (wrap64 (x5_1 + 1))) = some r := by rw [if_pos rfl] at H; exact H
        clear H; have H := H1; clear H1
        have H' := aM H
        clear H
        try go_wp2
        have n0_ := aM (below_drew1 HB.out)
        clear HB; have HB := n0_; clear n0_
        have p257 : 0 ≤ (x5_1 : Int) := of_decide_eq_true (by first | (with_reducible assumption) | assumption)
        have q257 : x5_1 < (l0.length : Int) := of_decide_eq_true (by first | (with_reducible assumption) | assumption)
        obtain ⟨ad257, e257, hx257_0, hx257_1, hx257_2, hx257_3⟩ := at_T55 HR0.out x5_1 p257 q257
        have hw257_3 := hx257_3; have hw257_2 := hx257_2; have hw257_1 := hx257_1; have hw257_0 := hx257_0
        cases e257
        replace hx257_0 := (HB.out.cell (World.block_lt_of_cell? w _ hx257_0)).trans hx257_0
        replace hx257_1 := (HB.out.cell (World.block_lt_of_cell? w _ hx257_1)).trans hx257_1
        replace hx257_2 := (HB.out.cell (World.block_lt_of_cell? w _ hx257_2)).trans hx257_2
        replace hx257_3 := (HB.out.cell (World.block_lt_of_cell? w _ hx257_3)).trans hx257_3
        replace p257 := eq_true p257
        replace q257 := eq_true q257
        have p258 : 0 ≤ (x5_1 : Int) := of_decide_eq_true (by first | (with_reducible assumption) | assumption)
        have q258 : x5_1 < (l1.length : Int) := of_decide_eq_true (by first | (with_reducible assumption) | assumption)
        obtain ⟨ad258, e258, hx258_0, hx258_1, hx258_2, hx258_3⟩ := at_T55 HR1.out x5_1 p258 q258
        have hw258_3 := hx258_3; have hw258_2 := hx258_2; have hw258_1 := hx258_1; have hw258_0 := hx258_0
        cases e258
        replace hx258_0 := (HB.out.cell (World.block_lt_of_cell? w _ hx258_0)).trans hx258_0
        replace hx258_1 := (HB.out.cell (World.block_lt_of_cell? w _ hx258_1)).trans hx258_1
        replace hx258_2 := (HB.out.cell (World.block_lt_of_cell? w _ hx258_2)).trans hx258_2
        replace hx258_3 := (HB.out.cell (World.block_lt_of_cell? w _ hx258_3)).trans hx258_3
        replace p258 := eq_true p258
        replace q258 := eq_true q258
        refine start_ (n := 10) (S := fun w' => w'.cell? (ad257.add ((x5_1).toNat * 4)) = some (.int .i64 ((rd_T55 l0 x5_1).f0)) ∧ w'.cell? ⟨(ad257.add ((x5_1).toNat * 4)).block, (ad257.add ((x5_1).toNat * 4)).off + 1, none⟩ = some (.string ((rd_T55 l0 x5_1).f1)) ∧ w'.cell? ⟨(ad257.add ((x5_1).toNat * 4)).block, (ad257.add ((x5_1).toNat * 4)).off + 2, none⟩ = some (.string ((rd_T55 l0 x5_1).f2)) ∧ w'.cell? ⟨(ad257.add ((x5_1).toNat * 4)).block, (ad257.add ((x5_1).toNat * 4)).off + 3, none⟩ = some (.string ((rd_T55 l0 x5_1).f3)) ∧ w'.cell? (ad258.add ((x5_1).toNat * 4)) = some (.int .i64 ((rd_T55 l1 x5_1).f0)) ∧ w'.cell? ⟨(ad258.add ((x5_1).toNat * 4)).block, (ad258.add ((x5_1).toNat * 4)).off + 1, none⟩ = some (.string ((rd_T55 l1 x5_1).f1)) ∧ w'.cell? ⟨(ad258.add ((x5_1).toNat * 4)).block, (ad258.add ((x5_1).toNat * 4)).off + 2, none⟩ = some (.string ((rd_T55 l1 x5_1).f2)) ∧ w'.cell? ⟨(ad258.add ((x5_1).toNat * 4)).block, (ad258.add ((x5_1).toNat * 4)).off + 3, none⟩ = some (.string ((rd_T55 l1 x5_1).f3))) (ds := []) #[false, false, false, false, false, false, false, false, false, false] (by kernel_rfl) rfl rfl ⟨((HB.out.cell (World.block_lt_of_cell? w _ hw257_0)).trans hw257_0), ((HB.out.cell (World.block_lt_of_cell? w _ hw257_1)).trans hw257_1), ((HB.out.cell (World.block_lt_of_cell? w _ hw257_2)).trans hw257_2), ((HB.out.cell (World.block_lt_of_cell? w _ hw257_3)).trans hw257_3), ((HB.out.cell (World.block_lt_of_cell? w _ hw258_0)).trans hw258_0), ((HB.out.cell (World.block_lt_of_cell? w _ hw258_1)).trans hw258_1), ((HB.out.cell (World.block_lt_of_cell? w _ hw258_2)).trans hw258_2), ((HB.out.cell (World.block_lt_of_cell? w _ hw258_3)).trans hw258_3)⟩ (fun hHeld => ?_); refine with_tabW laws_eqActS.tab6 laws_eqActS.bits6 (fun HT_ HW_ => ?_)
        generalize wr.drew = w9 at HB hx257_0 hx257_1 hx257_2 hx257_3 hx258_0 hx258_1 hx258_2 hx258_3 hHeld ⊢
        refine pX 0 17 (bB 10 1) (any_of HT_.out (by kernel_rfl)) ?_
        refine pX 1 18 (bB 10 3) (any_of HT_.out (by kernel_rfl)) ?_
        refine pX 2 19 (bB 10 7) (any_of HT_.out (by kernel_rfl)) ?_
        refine pX 4 21 (bB 10 23) (any_of HT_.out (by kernel_rfl)) ?_
        refine pX 5 22 (bB 10 55) (any_of HT_.out (by kernel_rfl)) ?_
        refine pX 6 23 (bB 10 119) (any_of HT_.out (by kernel_rfl)) ?_
        refine take_ (i := 3) (N := some 20) (v := ?_) (a' := ?_) (bB 10 127) rfl rfl (take_ofW HT_.out HW_.out (by kernel_rfl)) (fun _ _ _ h => h) (Or.inl ⟨by rfl, ?_⟩) hHeld ?_ ?_
        rotate_left
        ·rintro w' ⟨s0, s1, s2, s3, s4, s5, s6, s7⟩
         go_simp
         with_reducible rfl
        rotate_left
        ·simp only [aP, aQ, sT, sZ, sU, i64_w, i32_w]
         rfl
        refine take_ (i := 7) (N := some 24) (v := ?_) (a' := ?_) (bB 10 255) rfl rfl (take_ofW HT_.out HW_.out (by kernel_rfl)) (fun _ _ _ h => h) (Or.inl ⟨by rfl, ?_⟩) hHeld ?_ ?_
        rotate_left
        ·rintro w' ⟨s0, s1, s2, s3, s4, s5, s6, s7⟩
         go_simp
         with_reducible rfl
        rotate_left
        ·simp only [aP, aQ, sT, sZ, sU, i64_w, i32_w]
         rfl
        refine one_ (i := 8) (N := some 25) (bB 10 511) rfl rfl (one_of HT_.out (by kernel_rfl)) (by decide) (fun K hK => ?_)
        refine gX Try.func88 #[.agg #[.int .i64 ((rd_T55 l0 x5_1).f0), .string ((rd_T55 l0 x5_1).f1), .string ((rd_T55 l0 x5_1).f2), .string ((rd_T55 l0 x5_1).f3)], .agg #[.int .i64 ((rd_T55 l1 x5_1).f0), .string ((rd_T55 l1 x5_1).f1), .string ((rd_T55 l1 x5_1).f2), .string ((rd_T55 l1 x5_1).f3)]] ?_
        with_reducible refine (laws_eqAct.calls ((rd_T55 l0 x5_1).f0) ((rd_T55 l0 x5_1).f1) ((rd_T55 l0 x5_1).f2) ((rd_T55 l0 x5_1).f3) ((rd_T55 l1 x5_1).f0) ((rd_T55 l1 x5_1).f1) ((rd_T55 l1 x5_1).f2) ((rd_T55 l1 x5_1).f3) true _ A7.out).mono ?_
        rintro e w10 ⟨rfl, hb⟩
        refine ⟨_, rfl, ?_⟩
        have n0_ := aM (below_step (uL HB) hb)
        clear HB; have HB := n0_; clear n0_
        (try clear hb)
        (try clear hb2)
        (try clear hk)
        (try clear hi)
        refine hK.out _ _ ⟨((HB.out.cell (World.block_lt_of_cell? w _ hw257_0)).trans hw257_0), ((HB.out.cell (World.block_lt_of_cell? w _ hw257_1)).trans hw257_1), ((HB.out.cell (World.block_lt_of_cell? w _ hw257_2)).trans hw257_2), ((HB.out.cell (World.block_lt_of_cell? w _ hw257_3)).trans hw257_3), ((HB.out.cell (World.block_lt_of_cell? w _ hw258_0)).trans hw258_0), ((HB.out.cell (World.block_lt_of_cell? w _ hw258_1)).trans hw258_1), ((HB.out.cell (World.block_lt_of_cell? w _ hw258_2)).trans hw258_2), ((HB.out.cell (World.block_lt_of_cell? w _ hw258_3)).trans hw258_3)⟩ (fun hHeld => ?_)
        clear hK K
        refine norm_ (a' := ?_) ?_ ?_
        rotate_left
        ·show Act.put _ (some 25) _ = _
         simp only [aP, aQ, sT, sZ, sU, i64_w, i32_w]
         rfl
        refine pX 9 26 (bB 10 1023) (any_of HT_.out (by kernel_rfl)) ?_
        refine done_ (done_of HT_.out (by kernel_rfl)) ?_
        try go_wp2
        go_roundg k1
        case measure => have := HK1.out; omega
        case rel => exact ⟨(wrap64 (x5_1 + 1)), (by first | rfl | (simp; done) | (simp [*]; done)), H', ⟨by have := HK1.out; omega⟩, ⟨uL HB⟩⟩
       ·replace c8 := Bool.eq_false_iff.mpr c8
        subst c8
        have H1 : (some false) = some r := by rw [if_neg (show ¬ (false = true) by decide)] at H; exact H
        clear H; have H := H1; clear H1
        obtain rfl := Option.some.inj H
        try go_wp2
        have n0_ := aM (below_drew1 HB.out)
        clear HB; have HB := n0_; clear n0_
        have p257 : 0 ≤ (x5_1 : Int) := of_decide_eq_true (by first | (with_reducible assumption) | assumption)
        have q257 : x5_1 < (l0.length : Int) := of_decide_eq_true (by first | (with_reducible assumption) | assumption)
        obtain ⟨ad257, e257, hx257_0, hx257_1, hx257_2, hx257_3⟩ := at_T55 HR0.out x5_1 p257 q257
        have hw257_3 := hx257_3; have hw257_2 := hx257_2; have hw257_1 := hx257_1; have hw257_0 := hx257_0
        cases e257
        replace hx257_0 := (HB.out.cell (World.block_lt_of_cell? w _ hx257_0)).trans hx257_0
        replace hx257_1 := (HB.out.cell (World.block_lt_of_cell? w _ hx257_1)).trans hx257_1
        replace hx257_2 := (HB.out.cell (World.block_lt_of_cell? w _ hx257_2)).trans hx257_2
        replace hx257_3 := (HB.out.cell (World.block_lt_of_cell? w _ hx257_3)).trans hx257_3
        replace p257 := eq_true p257
        replace q257 := eq_true q257
        have p258 : 0 ≤ (x5_1 : Int) := of_decide_eq_true (by first | (with_reducible assumption) | assumption)
        have q258 : x5_1 < (l1.length : Int) := of_decide_eq_true (by first | (with_reducible assumption) | assumption)
        obtain ⟨ad258, e258, hx258_0, hx258_1, hx258_2, hx258_3⟩ := at_T55 HR1.out x5_1 p258 q258
        have hw258_3 := hx258_3; have hw258_2 := hx258_2; have hw258_1 := hx258_1; have hw258_0 := hx258_0
        cases e258
        replace hx258_0 := (HB.out.cell (World.block_lt_of_cell? w _ hx258_0)).trans hx258_0
        replace hx258_1 := (HB.out.cell (World.block_lt_of_cell? w _ hx258_1)).trans hx258_1
        replace hx258_2 := (HB.out.cell (World.block_lt_of_cell? w _ hx258_2)).trans hx258_2
        replace hx258_3 := (HB.out.cell (World.block_lt_of_cell? w _ hx258_3)).trans hx258_3
        replace p258 := eq_true p258
        replace q258 := eq_true q258
        refine start_ (n := 10) (S := fun w' => w'.cell? (ad257.add ((x5_1).toNat * 4)) = some (.int .i64 ((rd_T55 l0 x5_1).f0)) ∧ w'.cell? ⟨(ad257.add ((x5_1).toNat * 4)).block, (ad257.add ((x5_1).toNat * 4)).off + 1, none⟩ = some (.string ((rd_T55 l0 x5_1).f1)) ∧ w'.cell? ⟨(ad257.add ((x5_1).toNat * 4)).block, (ad257.add ((x5_1).toNat * 4)).off + 2, none⟩ = some (.string ((rd_T55 l0 x5_1).f2)) ∧ w'.cell? ⟨(ad257.add ((x5_1).toNat * 4)).block, (ad257.add ((x5_1).toNat * 4)).off + 3, none⟩ = some (.string ((rd_T55 l0 x5_1).f3)) ∧ w'.cell? (ad258.add ((x5_1).toNat * 4)) = some (.int .i64 ((rd_T55 l1 x5_1).f0)) ∧ w'.cell? ⟨(ad258.add ((x5_1).toNat * 4)).block, (ad258.add ((x5_1).toNat * 4)).off + 1, none⟩ = some (.string ((rd_T55 l1 x5_1).f1)) ∧ w'.cell? ⟨(ad258.add ((x5_1).toNat * 4)).block, (ad258.add ((x5_1).toNat * 4)).off + 2, none⟩ = some (.string ((rd_T55 l1 x5_1).f2)) ∧ w'.cell? ⟨(ad258.add ((x5_1).toNat * 4)).block, (ad258.add ((x5_1).toNat * 4)).off + 3, none⟩ = some (.string ((rd_T55 l1 x5_1).f3))) (ds := []) #[false, false, false, false, false, false, false, false, false, false] (by kernel_rfl) rfl rfl ⟨((HB.out.cell (World.block_lt_of_cell? w _ hw257_0)).trans hw257_0), ((HB.out.cell (World.block_lt_of_cell? w _ hw257_1)).trans hw257_1), ((HB.out.cell (World.block_lt_of_cell? w _ hw257_2)).trans hw257_2), ((HB.out.cell (World.block_lt_of_cell? w _ hw257_3)).trans hw257_3), ((HB.out.cell (World.block_lt_of_cell? w _ hw258_0)).trans hw258_0), ((HB.out.cell (World.block_lt_of_cell? w _ hw258_1)).trans hw258_1), ((HB.out.cell (World.block_lt_of_cell? w _ hw258_2)).trans hw258_2), ((HB.out.cell (World.block_lt_of_cell? w _ hw258_3)).trans hw258_3)⟩ (fun hHeld => ?_); refine with_tabW laws_eqActS.tab6 laws_eqActS.bits6 (fun HT_ HW_ => ?_)
        generalize wr.drew = w11 at HB hx257_0 hx257_1 hx257_2 hx257_3 hx258_0 hx258_1 hx258_2 hx258_3 hHeld ⊢
        refine pX 0 17 (bB 10 1) (any_of HT_.out (by kernel_rfl)) ?_
        refine pX 1 18 (bB 10 3) (any_of HT_.out (by kernel_rfl)) ?_
        refine pX 2 19 (bB 10 7) (any_of HT_.out (by kernel_rfl)) ?_
        refine pX 4 21 (bB 10 23) (any_of HT_.out (by kernel_rfl)) ?_
        refine pX 5 22 (bB 10 55) (any_of HT_.out (by kernel_rfl)) ?_
        refine pX 6 23 (bB 10 119) (any_of HT_.out (by kernel_rfl)) ?_
        refine take_ (i := 3) (N := some 20) (v := ?_) (a' := ?_) (bB 10 127) rfl rfl (take_ofW HT_.out HW_.out (by kernel_rfl)) (fun _ _ _ h => h) (Or.inl ⟨by rfl, ?_⟩) hHeld ?_ ?_
        rotate_left
        ·rintro w' ⟨s0, s1, s2, s3, s4, s5, s6, s7⟩
         go_simp
         with_reducible rfl
        rotate_left
        ·simp only [aP, aQ, sT, sZ, sU, i64_w, i32_w]
         rfl
        refine take_ (i := 7) (N := some 24) (v := ?_) (a' := ?_) (bB 10 255) rfl rfl (take_ofW HT_.out HW_.out (by kernel_rfl)) (fun _ _ _ h => h) (Or.inl ⟨by rfl, ?_⟩) hHeld ?_ ?_
        rotate_left
        ·rintro w' ⟨s0, s1, s2, s3, s4, s5, s6, s7⟩
         go_simp
         with_reducible rfl
        rotate_left
        ·simp only [aP, aQ, sT, sZ, sU, i64_w, i32_w]
         rfl
        refine one_ (i := 8) (N := some 25) (bB 10 511) rfl rfl (one_of HT_.out (by kernel_rfl)) (by decide) (fun K hK => ?_)
        refine gX Try.func88 #[.agg #[.int .i64 ((rd_T55 l0 x5_1).f0), .string ((rd_T55 l0 x5_1).f1), .string ((rd_T55 l0 x5_1).f2), .string ((rd_T55 l0 x5_1).f3)], .agg #[.int .i64 ((rd_T55 l1 x5_1).f0), .string ((rd_T55 l1 x5_1).f1), .string ((rd_T55 l1 x5_1).f2), .string ((rd_T55 l1 x5_1).f3)]] ?_
        with_reducible refine (laws_eqAct.calls ((rd_T55 l0 x5_1).f0) ((rd_T55 l0 x5_1).f1) ((rd_T55 l0 x5_1).f2) ((rd_T55 l0 x5_1).f3) ((rd_T55 l1 x5_1).f0) ((rd_T55 l1 x5_1).f1) ((rd_T55 l1 x5_1).f2) ((rd_T55 l1 x5_1).f3) false _ A7.out).mono ?_
        rintro e w12 ⟨rfl, hb⟩
        refine ⟨_, rfl, ?_⟩
        have n0_ := aM (below_step (uL HB) hb)
        clear HB; have HB := n0_; clear n0_
        (try clear hb)
        (try clear hb2)
        (try clear hk)
        (try clear hi)
        refine hK.out _ _ ⟨((HB.out.cell (World.block_lt_of_cell? w _ hw257_0)).trans hw257_0), ((HB.out.cell (World.block_lt_of_cell? w _ hw257_1)).trans hw257_1), ((HB.out.cell (World.block_lt_of_cell? w _ hw257_2)).trans hw257_2), ((HB.out.cell (World.block_lt_of_cell? w _ hw257_3)).trans hw257_3), ((HB.out.cell (World.block_lt_of_cell? w _ hw258_0)).trans hw258_0), ((HB.out.cell (World.block_lt_of_cell? w _ hw258_1)).trans hw258_1), ((HB.out.cell (World.block_lt_of_cell? w _ hw258_2)).trans hw258_2), ((HB.out.cell (World.block_lt_of_cell? w _ hw258_3)).trans hw258_3)⟩ (fun hHeld => ?_)
        clear hK K
        refine norm_ (a' := ?_) ?_ ?_
        rotate_left
        ·show Act.put _ (some 25) _ = _
         simp only [aP, aQ, sT, sZ, sU, i64_w, i32_w]
         rfl
        refine pX 9 26 (bB 10 1023) (any_of HT_.out (by kernel_rfl)) ?_
        refine done_ (done_of HT_.out (by kernel_rfl)) ?_
        try go_wp2
        go_ret
        exact ⟨by first | rfl | (simp [errW_none, errW_some] <;> rfl) | (simp [*, errW_none, errW_some] <;> rfl), uL HB⟩
      ·rw [if_neg c6] at H
       exact absurd H (by simp)
     ·rw [if_neg c5] at H
      exact absurd H (by simp)
    ·rw [if_neg c4] at H
     have c4b0 : decide (x5_1 < (l0.length : Int)) = false := decide_eq_false c4
     clear c4
     obtain rfl := Option.some.inj H
     go_wp2
     go_ret
     exact ⟨by first | rfl | (simp [errW_none, errW_some] <;> rfl) | (simp [*, errW_none, errW_some] <;> rfl), uL HB⟩
 ·rw [if_neg c3] at H
  have c3b0 : ((l0.length : Int) == (l1.length : Int)) = false := beq_eq_false_iff_ne.mpr c3
  have c3b1 : ((l0.length : Int) != (l1.length : Int)) = true := bne_iff_ne.mpr c3
  have c3b2 : (l0.length == l1.length) = false := by first | simpa using c3 | (simp at c3 ⊢; omega)
  obtain rfl := Option.some.inj H
  go_enter Try.func45, Try.ntmps45
  go_wp2
  go_ret
  exact ⟨by first | rfl | (simp [errW_none, errW_some] <;> rfl) | (simp [*, errW_none, errW_some] <;> rfl), uL HB⟩

/-! ### laws_markActS: function 46 -/
def laws_markActS.l0 : Nat → List (S55) → Int → Int → Option (Int × (List (S55)))
 | 0, _, _, _ => none
 | k + 1, x0, x1, x5 => if x5 < (x0.length : Int) then (if 0 ≤ x5 then ((some (x0.set (x5 : Int).toNat (⟨x1, (rd_T55 x0 x5).f1, (rd_T55 x0 x5).f2, (rd_T55 x0 x5).f3⟩ : S55) : List (S55))).bind fun y260 => ((laws_markText.f k (wrap64 (x1 + 1))).bind fun t261 => ((some (y260.set (x5 : Int).toNat (⟨(rd_T55 y260 x5).f0, t261, (rd_T55 y260 x5).f2, (rd_T55 y260 x5).f3⟩ : S55) : List (S55))).bind fun y262 => ((laws_markText.f k (wrap64 ((wrap64 (x1 + 1)) + 1))).bind fun t263 => ((some (y262.set (x5 : Int).toNat (⟨(rd_T55 y262 x5).f0, (rd_T55 y262 x5).f1, t263, (rd_T55 y262 x5).f3⟩ : S55) : List (S55))).bind fun y264 => ((laws_markText.f k (wrap64 ((wrap64 ((wrap64 (x1 + 1)) + 1)) + 1))).bind fun t265 => (laws_markActS.l0 k (y264.set (x5 : Int).toNat (⟨(rd_T55 y264 x5).f0, (rd_T55 y264 x5).f1, (rd_T55 y264 x5).f2, t265⟩ : S55)) (wrap64 ((wrap64 ((wrap64 ((wrap64 (x1 + 1)) + 1)) + 1)) + 1)) (wrap64 (x5 + 1))))))))) else (none)) else (some (x1, x0))
def laws_markActS.f (k : Nat) (l0 : List (S55)) (a1 : Int) : Option (Int × (List (S55))) := laws_markActS.l0 k l0 a1 0
theorem laws_markActS.mono_l : ∀ k, (∀ y0 y1 y2, LeO (laws_markActS.l0 k y0 y1 y2) (laws_markActS.l0 (k + 1) y0 y1 y2))
 | 0 => fun _ _ _ r h => by simp [laws_markActS.l0] at h
 | k + 1 => by
  have ih0 := laws_markActS.mono_l k
  ·intro y0 y1 y2
   unfold laws_markActS.l0
   repeat' first
   | (with_reducible exact ih0 _ _ _)
   | (with_reducible exact laws_markText.mono _ _)
   | (with_reducible exact LeO.refl _)
   | (with_reducible exact LeO.none _)
   | (with_reducible refine LeO.ite ?_ ?_)
   | (with_reducible refine LeO.bind ?_ (fun _ => ?_))
   | exact ih0 _ _ _
   | exact laws_markText.mono _ _
   | exact LeO.none _
   | refine LeO.ite ?_ ?_
   | refine LeO.bind ?_ (fun _ => ?_)
theorem laws_markActS.mono : ∀ a0 a1 k, LeO (laws_markActS.f k a0 a1) (laws_markActS.f (k + 1) a0 a1) := by
 intro a0 a1 k
 have ih0 := laws_markActS.mono_l k
 unfold laws_markActS.f
 repeat' first
   | (with_reducible exact ih0 _ _ _)
   | (with_reducible exact laws_markText.mono _ _)
   | (with_reducible exact LeO.refl _)
   | (with_reducible exact LeO.none _)
   | (with_reducible refine LeO.ite ?_ ?_)
   | (with_reducible refine LeO.bind ?_ (fun _ => ?_))
   | exact ih0 _ _ _
   | exact laws_markText.mono _ _
   | exact LeO.none _
   | refine LeO.ite ?_ ?_
   | refine LeO.bind ?_ (fun _ => ?_)
set_option maxHeartbeats 8000000 in
set_option maxRecDepth 100000 in
theorem laws_markActS.calls (k : Nat) (P0_ : Nat → Prop) (u9000_ : Value) (l0 : List (S55)) (a1 : Int) (r1 : Int) (r2 : List (S55)) (w0 w : World) (hB : Below w0.heap.size w0 w) (ho0 : Kd.R k55 55 w w0.heap.size P0_ u9000_ l0) (h : laws_markActS.f k l0 a1 = some (r1, r2)) :
  Calls Try.prog 46 #[u9000_, .int .i64 a1] w fun e w' => e = .returned (.int .i64 r1) ∧ Kd.R k55 55 w' w0.heap.size (fun k_ => (P0_ k_ ∨ w.heap.size ≤ k_)) u9000_ r2 ∧ Below w0.heap.size w0 w' ∧ Kept w w' (fun k_ => P0_ k_) := by
 have HO0 := aM (show Kd.R k55 55 w w0.heap.size (fun k_ => (P0_ k_ ∨ w.heap.size ≤ k_)) u9000_ l0 from Kd.R_mono ho0 (fun k_ hk => (.inl hk)))
 have HK := aM (Kept.refl w (fun k_ => P0_ k_))
 have HW0 := aM hB.size
 have HB := aM hB
 clear hB
 have H : (laws_markActS.l0 k l0 a1 0) = some (r1, r2) := h
 clear h
 have H' := aM H
 clear H
 go_enter Try.func46, Try.ntmps46
 go_wp2
 go_loopg [1, 5] k (fun kq v1 v5 w' => ∃ (x0_1 : List (S55)) (x1_1 : Int) (x5_1 : Int), v1 = .int .i64 x1_1 ∧ v5 = .int .i64 x5_1 ∧ Aside0 (laws_markActS.l0 kq x0_1 x1_1 x5_1 = some (r1, r2)) ∧ Aside0 (kq ≤ k) ∧ Aside0 (Kd.R k55 55 w' w0.heap.size (fun k_ => (P0_ k_ ∨ w.heap.size ≤ k_)) u9000_ x0_1) ∧ Aside0 (Kept w w' (fun k_ => P0_ k_)) ∧ Aside0 (Below w0.heap.size w0 w'))
 case atStart => exact ⟨(l0), (a1), (0), (by first | rfl | (simp; done) | (simp [*]; done)), (by first | rfl | (simp; done) | (simp [*]; done)), H', ⟨Nat.le_refl _⟩, ⟨by (with_reducible repeat first | apply rA | apply rN | apply rD); exact HO0.out⟩, ⟨by repeat (first | (with_reducible first | exact HK.out | apply Kept.alloc | apply Kept.drewN | apply Kept.drew) | exact HK.out)⟩, ⟨uL HB⟩⟩
 case round =>
  clear H'
  try clear p2
  obtain ⟨x0_1, x1_1, x5_1, rfl, rfl, HA, HK1, HO_0, HK, HB⟩ := hrel
  cases gk with
  | zero => exact absurd HA.out (by simp [laws_markActS.l0])
  | succ k1 =>
   have H := HA.out
   clear HA
   simp only [laws_markActS.l0] at H
   by_cases c3 : x5_1 < (x0_1.length : Int)
   ·rw [if_pos c3] at H
    have c3b0 : decide (x5_1 < (x0_1.length : Int)) = true := decide_eq_true c3
    clear c3
    by_cases c4 : 0 ≤ x5_1
    ·rw [if_pos c4] at H
     have c4b0 : decide (0 ≤ x5_1) = true := decide_eq_true c4
     clear c4
     obtain ⟨y260, hy260⟩ : ∃ y_ : List (S55), y_ = (x0_1.set (x5_1 : Int).toNat (⟨x1_1, (rd_T55 x0_1 x5_1).f1, (rd_T55 x0_1 x5_1).f2, (rd_T55 x0_1 x5_1).f3⟩ : S55)) := ⟨_, rfl⟩
     replace H : ((laws_markText.f k1 (wrap64 (x1_1 + 1))).bind fun t261 => ((some (y260.set (x5_1 : Int).toNat (⟨(rd_T55 y260 x5_1).f0, t261, (rd_T55 y260 x5_1).f2, (rd_T55 y260 x5_1).f3⟩ : S55) : List (S55))).bind fun y262 => ((laws_markText.f k1 (wrap64 ((wrap64 (x1_1 + 1)) + 1))).bind fun t263 => ((some (y262.set (x5_1 : Int).toNat (⟨(rd_T55 y262 x5_1).f0, (rd_T55 y262 x5_1).f1, t263, (rd_T55 y262 x5_1).f3⟩ : S55) : List (S55))).bind fun y264 => ((laws_markText.f k1 (wrap64 ((wrap64 ((wrap64 (x1_1 + 1)) + 1)) + 1))).bind fun t265 => (laws_markActS.l0 k1 (y264.set (x5_1 : Int).toNat (⟨(rd_T55 y264 x5_1).f0, (rd_T55 y264 x5_1).f1, (rd_T55 y264 x5_1).f2, t265⟩ : S55)) (wrap64 ((wrap64 ((wrap64 ((wrap64 (x1_1 + 1)) + 1)) + 1)) + 1)) (wrap64 (x5_1 + 1)))))))) = some (r1, r2) := by first | (rw [hy260]; with_reducible exact H) | (have H2_ := (Option.bind_some _ _).symm.trans H; rw [hy260]; with_reducible exact H2_) | (have H2_ := (Option.bind_some _ _).symm.trans H; with_reducible exact H2_) | with_reducible exact H | (rw [hy260]; exact H) | exact H
     have Ny260 := aM hy260
     clear hy260
     replace H := Option.bind_eq_some_iff.mp H
     obtain ⟨t261, A60, H⟩ := H
     replace H : ((some (y260.set (x5_1 : Int).toNat (⟨(rd_T55 y260 x5_1).f0, t261, (rd_T55 y260 x5_1).f2, (rd_T55 y260 x5_1).f3⟩ : S55) : List (S55))).bind fun y262 => ((laws_markText.f k1 (wrap64 ((wrap64 (x1_1 + 1)) + 1))).bind fun t263 => ((some (y262.set (x5_1 : Int).toNat (⟨(rd_T55 y262 x5_1).f0, (rd_T55 y262 x5_1).f1, t263, (rd_T55 y262 x5_1).f3⟩ : S55) : List (S55))).bind fun y264 => ((laws_markText.f k1 (wrap64 ((wrap64 ((wrap64 (x1_1 + 1)) + 1)) + 1))).bind fun t265 => (laws_markActS.l0 k1 (y264.set (x5_1 : Int).toNat (⟨(rd_T55 y264 x5_1).f0, (rd_T55 y264 x5_1).f1, (rd_T55 y264 x5_1).f2, t265⟩ : S55)) (wrap64 ((wrap64 ((wrap64 ((wrap64 (x1_1 + 1)) + 1)) + 1)) + 1)) (wrap64 (x5_1 + 1))))))) = some (r1, r2) := H
     have A6 := aM A60
     clear A60
     obtain ⟨y262, hy262⟩ : ∃ y_ : List (S55), y_ = (y260.set (x5_1 : Int).toNat (⟨(rd_T55 y260 x5_1).f0, t261, (rd_T55 y260 x5_1).f2, (rd_T55 y260 x5_1).f3⟩ : S55)) := ⟨_, rfl⟩
     replace H : ((laws_markText.f k1 (wrap64 ((wrap64 (x1_1 + 1)) + 1))).bind fun t263 => ((some (y262.set (x5_1 : Int).toNat (⟨(rd_T55 y262 x5_1).f0, (rd_T55 y262 x5_1).f1, t263, (rd_T55 y262 x5_1).f3⟩ : S55) : List (S55))).bind fun y264 => ((laws_markText.f k1 (wrap64 ((wrap64 ((wrap64 (x1_1 + 1)) + 1)) + 1))).bind fun t265 => (laws_markActS.l0 k1 (y264.set (x5_1 : Int).toNat (⟨(rd_T55 y264 x5_1).f0, (rd_T55 y264 x5_1).f1, (rd_T55 y264 x5_1).f2, t265⟩ : S55)) (wrap64 ((wrap64 ((wrap64 ((wrap64 (x1_1 + 1)) + 1)) + 1)) + 1)) (wrap64 (x5_1 + 1)))))) = some (r1, r2) := by first | (rw [hy262]; with_reducible exact H) | (have H2_ := (Option.bind_some _ _).symm.trans H; rw [hy262]; with_reducible exact H2_) | (have H2_ := (Option.bind_some _ _).symm.trans H; with_reducible exact H2_) | with_reducible exact H | (rw [hy262]; exact H) | exact H
     have Ny262 := aM hy262
     clear hy262
     replace H := Option.bind_eq_some_iff.mp H
     obtain ⟨t263, A80, H⟩ := H
     replace H : ((some (y262.set (x5_1 : Int).toNat (⟨(rd_T55 y262 x5_1).f0, (rd_T55 y262 x5_1).f1, t263, (rd_T55 y262 x5_1).f3⟩ : S55) : List (S55))).bind fun y264 => ((laws_markText.f k1 (wrap64 ((wrap64 ((wrap64 (x1_1 + 1)) + 1)) + 1))).bind fun t265 => (laws_markActS.l0 k1 (y264.set (x5_1 : Int).toNat (⟨(rd_T55 y264 x5_1).f0, (rd_T55 y264 x5_1).f1, (rd_T55 y264 x5_1).f2, t265⟩ : S55)) (wrap64 ((wrap64 ((wrap64 ((wrap64 (x1_1 + 1)) + 1)) + 1)) + 1)) (wrap64 (x5_1 + 1))))) = some (r1, r2) := H
     have A8 := aM A80
     clear A80
     obtain ⟨y264, hy264⟩ : ∃ y_ : List (S55), y_ = (y262.set (x5_1 : Int).toNat (⟨(rd_T55 y262 x5_1).f0, (rd_T55 y262 x5_1).f1, t263, (rd_T55 y262 x5_1).f3⟩ : S55)) := ⟨_, rfl⟩
     replace H : ((laws_markText.f k1 (wrap64 ((wrap64 ((wrap64 (x1_1 + 1)) + 1)) + 1))).bind fun t265 => (laws_markActS.l0 k1 (y264.set (x5_1 : Int).toNat (⟨(rd_T55 y264 x5_1).f0, (rd_T55 y264 x5_1).f1, (rd_T55 y264 x5_1).f2, t265⟩ : S55)) (wrap64 ((wrap64 ((wrap64 ((wrap64 (x1_1 + 1)) + 1)) + 1)) + 1)) (wrap64 (x5_1 + 1)))) = some (r1, r2) := by first | (rw [hy264]; with_reducible exact H) | (have H2_ := (Option.bind_some _ _).symm.trans H; rw [hy264]; with_reducible exact H2_) | (have H2_ := (Option.bind_some _ _).symm.trans H; with_reducible exact H2_) | with_reducible exact H | (rw [hy264]; exact H) | exact H
     have Ny264 := aM hy264
     clear hy264
     replace H := Option.bind_eq_some_iff.mp H
     obtain ⟨t265, A100, H⟩ := H
     replace H : (laws_markActS.l0 k1 (y264.set (x5_1 : Int).toNat (⟨(rd_T55 y264 x5_1).f0, (rd_T55 y264 x5_1).f1, (rd_T55 y264 x5_1).f2, t265⟩ : S55)) (wrap64 ((wrap64 ((wrap64 ((wrap64 (x1_1 + 1)) + 1)) + 1)) + 1)) (wrap64 (x5_1 + 1))) = some (r1, r2) := H
     have A10 := aM A100
     clear A100
     obtain ⟨y266, hy266⟩ : ∃ y_ : List (S55), y_ = (y264.set (x5_1 : Int).toNat (⟨(rd_T55 y264 x5_1).f0, (rd_T55 y264 x5_1).f1, (rd_T55 y264 x5_1).f2, t265⟩ : S55)) := ⟨_, rfl⟩
     replace H : (laws_markActS.l0 k1 y266 (wrap64 ((wrap64 ((wrap64 ((wrap64 (x1_1 + 1)) + 1)) + 1)) + 1)) (wrap64 (x5_1 + 1))) = some (r1, r2) := by first | (rw [hy266]; with_reducible exact H) | (have H2_ := (Option.bind_some _ _).symm.trans H; rw [hy266]; with_reducible exact H2_) | (have H2_ := (Option.bind_some _ _).symm.trans H; with_reducible exact H2_) | with_reducible exact H | (rw [hy266]; exact H) | exact H
     have Ny266 := aM hy266
     clear hy266
     have H' := aM H
     clear H
     obtain ⟨Ao12, co12, eo12⟩ := Kd.R_slice HO_0.out
     subst eo12
     have p5 : 0 ≤ (x5_1 : Int) := of_decide_eq_true (by first | (with_reducible assumption) | assumption)
     have q5 : (x5_1 : Int) < ((x0_1.length : Int) : Int) := of_decide_eq_true (by first | (with_reducible assumption) | assumption)
     obtain ⟨go5, co5, eo5, gb5, gl5, cl5, HG5⟩ := Kd.R_form HO_0.out (by omega)
     (first | cases eo5 | (injection eo5 with ea_ en_ ec_; (first | subst ea_ | (injection ea_ with ea_; subst ea_)); subst ec_; clear en_))
     have GB5 := aM gb5
     have GG5 := aM HG5
     clear gb5 gl5 HG5
     have HMgo5 := aM (show (P0_ go5 ∨ w.heap.size ≤ go5) from (HO_0.out.1 _ rfl))
     obtain ⟨ce5, hcl5, hM5, hcc5, hfr5⟩ := Kd.R_elem HO_0.out z55 (x5_1 : Int) p5 q5
     obtain rfl := k55_openM hM5
     have hx5_0 : wr.cell? ⟨go5, (x5_1 : Int).toNat * 4, none⟩ = some (.int .i64 ((rd_T55 x0_1 x5_1).f0)) := hcc5 0 _ rfl
     have hx5_1 : wr.cell? ⟨go5, (x5_1 : Int).toNat * 4 + 1, none⟩ = some (.string ((rd_T55 x0_1 x5_1).f1)) := hcc5 1 _ rfl
     have hx5_2 : wr.cell? ⟨go5, (x5_1 : Int).toNat * 4 + 2, none⟩ = some (.string ((rd_T55 x0_1 x5_1).f2)) := hcc5 2 _ rfl
     have hx5_3 : wr.cell? ⟨go5, (x5_1 : Int).toNat * 4 + 3, none⟩ = some (.string ((rd_T55 x0_1 x5_1).f3)) := hcc5 3 _ rfl
     have hf5_0 : wr.frozen? ⟨go5, (x5_1 : Int).toNat * 4, none⟩ = false := hfr5 0
     have hf5_1 : wr.frozen? ⟨go5, (x5_1 : Int).toNat * 4 + 1, none⟩ = false := hfr5 1
     have hf5_2 : wr.frozen? ⟨go5, (x5_1 : Int).toNat * 4 + 2, none⟩ = false := hfr5 2
     have hf5_3 : wr.frozen? ⟨go5, (x5_1 : Int).toNat * 4 + 3, none⟩ = false := hfr5 3
     clear hcl5 hcc5 hfr5 hM5
     replace p5 := eq_true p5
     replace q5 := eq_true q5
     have HX13 := aM (show Kd.R k55 55 wr w0.heap.size (fun k_ => (P0_ k_ ∨ w.heap.size ≤ k_)) (.slice (some ⟨go5, 0, none⟩) x0_1.length co12) x0_1 from (uR HO_0))
     obtain ⟨ce13, hcl13, hM13, hcc13, hfr13⟩ := Kd.R_elem HX13.out z55 (x5_1 : Int) (of_decide_eq_true (by first | (with_reducible assumption) | assumption)) (by have h_ : (x5_1 : Int) < ((x0_1.length : Int) : Int) := of_decide_eq_true (by first | (with_reducible assumption) | assumption); first | exact h_ | (have e_ := (Kd.R_reads' HO_0.out).1; omega) | simpa using h_)
     obtain rfl := k55_openM hM13
     have HP13 := Kd.R_seg HX13.out (x5_1 : Int) (of_decide_eq_true (by first | (with_reducible assumption) | assumption)) (by have h_ : (x5_1 : Int) < ((x0_1.length : Int) : Int) := of_decide_eq_true (by first | (with_reducible assumption) | assumption); first | exact h_ | (have e_ := (Kd.R_reads' HO_0.out).1; omega) | simpa using h_) (seg := [.int .i64 x1_1]) (j := 0) hcl13 hcc13 (show 1 ≤ 4 from by decide) (x' := (⟨x1_1, (rd_T55 x0_1 x5_1).f1, (rd_T55 x0_1 x5_1).f2, (rd_T55 x0_1 x5_1).f3⟩ : S55)) (k55_mkM _ _ _ (⟨x1_1, (rd_T55 x0_1 x5_1).f1, (rd_T55 x0_1 x5_1).f2, (rd_T55 x0_1 x5_1).f3⟩ : S55) ) (fun _ hk => hk)
     have hx13_0 := hcc13 0 _ rfl
     (try simp only [show (k55).sz = 4 from rfl, Nat.mul_one, Nat.add_zero] at hx13_0)
     have hf13_0 := hfr13 0
     (try simp only [show (k55).sz = 4 from rfl, Nat.mul_one, Nat.add_zero] at hf13_0)
     clear hcl13 hcc13 hfr13 hM13
     go_wp2_with (first | ((with_reducible refine gate_store (t := 3) (p := 16) rfl ?_); refine store_event (t := 3) (p := 16) (v := ?vo_w14) (w1 := (wr.setCell ⟨go5, (x5_1 : Int).toNat * 4, none⟩ (.int .i64 x1_1))) ?hg ?ho ?hn ?hr ?_; (case ho => rfl); (case hg => rfl); (case hn => rfl); (case hr => first | (go_simp; done) | (go_simp; rfl)); intro w14 hw; have hg : wr.grownBy w14 (some go5) := (by rw [hw]; exact HP13.2); have hp_ : Kd.R k55 55 w14 w0.heap.size (fun k_ => (P0_ k_ ∨ w.heap.size ≤ k_)) (.slice (some ⟨go5, 0, none⟩) x0_1.length co12) y260 := (by rw [hw, Ny260.out]; exact HP13.1); clear HP13; have n0_ := aM (hp_); have n1_ := aM ((by rw [hw]; exact below_set (HB.out) GB5.out : Below w0.heap.size w0 w14)); have n2_ := aM (Kept.of_grown (S := (fun k_ => P0_ k_)) hg (by repeat (first | (with_reducible first | exact HK.out | apply Kept.alloc | apply Kept.drewN | apply Kept.drew) | exact HK.out)) (fun k_ e_ => (HO_0.out.1 k_ e_))); clear HO_0; clear HB; clear HK; have HO_0 := n0_; have HB := n1_; have HK := n2_; clear n0_ n1_ n2_; clear hg hw hp_) | ((with_reducible refine gate_callee (f := 89) rfl ?_); refine gL (some 22) Try.func89 #[.int .i64 (wrap64 (x1_1 + 1))] ?_; (with_reducible refine (laws_markText.calls k1 (wrap64 (x1_1 + 1)) t261 _ A6.out).mono ?_); rintro e w15 ⟨rfl, hb⟩; refine ⟨_, rfl, ?_⟩; have n0_ := aM (Kd.R_below (uR HO_0) hb); have n1_ := aM (Kept.below (S := (fun k_ => P0_ k_)) (by repeat (first | (with_reducible first | exact HK.out | apply Kept.alloc | apply Kept.drewN | apply Kept.drew) | exact HK.out)) hb); have n2_ := aM (below_step (uL HB) hb); clear HO_0; clear HK; clear HB; have HO_0 := n0_; have HK := n1_; have HB := n2_; clear n0_ n1_ n2_; (try clear hb); (try clear hb2); (try clear hk); (try clear hi); have p7 : 0 ≤ (x5_1 : Int) := of_decide_eq_true (by first | (with_reducible assumption) | assumption); have q7 : (x5_1 : Int) < ((x0_1.length : Int) : Int) := of_decide_eq_true (by first | (with_reducible assumption) | assumption); obtain ⟨ce7, hcl7, hM7, hcc7, hfr7⟩ := Kd.R_elem HO_0.out z55 (x5_1 : Int) p7 q7; obtain rfl := k55_openM hM7; have hx7_0 : w15.cell? ⟨go5, (x5_1 : Int).toNat * 4, none⟩ = some (.int .i64 ((rd_T55 y260 x5_1).f0)) := hcc7 0 _ rfl; have hx7_1 : w15.cell? ⟨go5, (x5_1 : Int).toNat * 4 + 1, none⟩ = some (.string ((rd_T55 y260 x5_1).f1)) := hcc7 1 _ rfl; have hx7_2 : w15.cell? ⟨go5, (x5_1 : Int).toNat * 4 + 2, none⟩ = some (.string ((rd_T55 y260 x5_1).f2)) := hcc7 2 _ rfl; have hx7_3 : w15.cell? ⟨go5, (x5_1 : Int).toNat * 4 + 3, none⟩ = some (.string ((rd_T55 y260 x5_1).f3)) := hcc7 3 _ rfl; have hf7_0 : w15.frozen? ⟨go5, (x5_1 : Int).toNat * 4, none⟩ = false := hfr7 0; have hf7_1 : w15.frozen? ⟨go5, (x5_1 : Int).toNat * 4 + 1, none⟩ = false := hfr7 1; have hf7_2 : w15.frozen? ⟨go5, (x5_1 : Int).toNat * 4 + 2, none⟩ = false := hfr7 2; have hf7_3 : w15.frozen? ⟨go5, (x5_1 : Int).toNat * 4 + 3, none⟩ = false := hfr7 3; clear hcl7 hcc7 hfr7 hM7; replace p7 := eq_true p7; replace q7 := eq_true q7; have HX16 := aM (show Kd.R k55 55 w15 w0.heap.size (fun k_ => (P0_ k_ ∨ w.heap.size ≤ k_)) (.slice (some ⟨go5, 0, none⟩) x0_1.length co12) y260 from (uR HO_0)); obtain ⟨ce16, hcl16, hM16, hcc16, hfr16⟩ := Kd.R_elem HX16.out z55 (x5_1 : Int) (of_decide_eq_true (by first | (with_reducible assumption) | assumption)) (by have h_ : (x5_1 : Int) < ((x0_1.length : Int) : Int) := of_decide_eq_true (by first | (with_reducible assumption) | assumption); first | exact h_ | (have e_ := (Kd.R_reads' HO_0.out).1; omega) | simpa using h_); obtain rfl := k55_openM hM16; have HP16 := Kd.R_seg HX16.out (x5_1 : Int) (of_decide_eq_true (by first | (with_reducible assumption) | assumption)) (by have h_ : (x5_1 : Int) < ((x0_1.length : Int) : Int) := of_decide_eq_true (by first | (with_reducible assumption) | assumption); first | exact h_ | (have e_ := (Kd.R_reads' HO_0.out).1; omega) | simpa using h_) (seg := [.string t261]) (j := 1) hcl16 hcc16 (show 2 ≤ 4 from by decide) (x' := (⟨(rd_T55 y260 x5_1).f0, t261, (rd_T55 y260 x5_1).f2, (rd_T55 y260 x5_1).f3⟩ : S55)) (k55_mkM _ _ _ (⟨(rd_T55 y260 x5_1).f0, t261, (rd_T55 y260 x5_1).f2, (rd_T55 y260 x5_1).f3⟩ : S55) ) (fun _ hk => hk); have hx16_1 := hcc16 1 _ rfl; (try simp only [show (k55).sz = 4 from rfl, Nat.mul_one, Nat.add_zero] at hx16_1); have hf16_1 := hfr16 1; (try simp only [show (k55).sz = 4 from rfl, Nat.mul_one, Nat.add_zero] at hf16_1); clear hcl16 hcc16 hfr16 hM16) | ((with_reducible refine gate_store (t := 9) (p := 24) rfl ?_); refine store_event (t := 9) (p := 24) (v := ?vo_w17) (w1 := (w15.setCell ⟨go5, (x5_1 : Int).toNat * 4 + 1, none⟩ (.string t261))) ?hg ?ho ?hn ?hr ?_; (case ho => rfl); (case hg => rfl); (case hn => rfl); (case hr => first | (go_simp; done) | (go_simp; rfl)); intro w17 hw; have hg : w15.grownBy w17 (some go5) := (by rw [hw]; exact HP16.2); have hp_ : Kd.R k55 55 w17 w0.heap.size (fun k_ => (P0_ k_ ∨ w.heap.size ≤ k_)) (.slice (some ⟨go5, 0, none⟩) x0_1.length co12) y262 := (by rw [hw, Ny262.out]; exact HP16.1); clear HP16; have n0_ := aM (hp_); have n1_ := aM ((by rw [hw]; exact below_set (HB.out) GB5.out : Below w0.heap.size w0 w17)); have n2_ := aM (Kept.of_grown (S := (fun k_ => P0_ k_)) hg (by repeat (first | (with_reducible first | exact HK.out | apply Kept.alloc | apply Kept.drewN | apply Kept.drew) | exact HK.out)) (fun k_ e_ => (HO_0.out.1 k_ e_))); clear HO_0; clear HB; clear HK; have HO_0 := n0_; have HB := n1_; have HK := n2_; clear n0_ n1_ n2_; clear hg hw hp_) | ((with_reducible refine gate_callee (f := 89) rfl ?_); refine gL (some 30) Try.func89 #[.int .i64 (wrap64 ((wrap64 (x1_1 + 1)) + 1))] ?_; (with_reducible refine (laws_markText.calls k1 (wrap64 ((wrap64 (x1_1 + 1)) + 1)) t263 _ A8.out).mono ?_); rintro e w18 ⟨rfl, hb⟩; refine ⟨_, rfl, ?_⟩; have n0_ := aM (Kd.R_below (uR HO_0) hb); have n1_ := aM (Kept.below (S := (fun k_ => P0_ k_)) (by repeat (first | (with_reducible first | exact HK.out | apply Kept.alloc | apply Kept.drewN | apply Kept.drew) | exact HK.out)) hb); have n2_ := aM (below_step (uL HB) hb); clear HO_0; clear HK; clear HB; have HO_0 := n0_; have HK := n1_; have HB := n2_; clear n0_ n1_ n2_; (try clear hb); (try clear hb2); (try clear hk); (try clear hi); have p9 : 0 ≤ (x5_1 : Int) := of_decide_eq_true (by first | (with_reducible assumption) | assumption); have q9 : (x5_1 : Int) < ((x0_1.length : Int) : Int) := of_decide_eq_true (by first | (with_reducible assumption) | assumption); obtain ⟨ce9, hcl9, hM9, hcc9, hfr9⟩ := Kd.R_elem HO_0.out z55 (x5_1 : Int) p9 q9; obtain rfl := k55_openM hM9; have hx9_0 : w18.cell? ⟨go5, (x5_1 : Int).toNat * 4, none⟩ = some (.int .i64 ((rd_T55 y262 x5_1).f0)) := hcc9 0 _ rfl; have hx9_1 : w18.cell? ⟨go5, (x5_1 : Int).toNat * 4 + 1, none⟩ = some (.string ((rd_T55 y262 x5_1).f1)) := hcc9 1 _ rfl; have hx9_2 : w18.cell? ⟨go5, (x5_1 : Int).toNat * 4 + 2, none⟩ = some (.string ((rd_T55 y262 x5_1).f2)) := hcc9 2 _ rfl; have hx9_3 : w18.cell? ⟨go5, (x5_1 : Int).toNat * 4 + 3, none⟩ = some (.string ((rd_T55 y262 x5_1).f3)) := hcc9 3 _ rfl; have hf9_0 : w18.frozen? ⟨go5, (x5_1 : Int).toNat * 4, none⟩ = false := hfr9 0; have hf9_1 : w18.frozen? ⟨go5, (x5_1 : Int).toNat * 4 + 1, none⟩ = false := hfr9 1; have hf9_2 : w18.frozen? ⟨go5, (x5_1 : Int).toNat * 4 + 2, none⟩ = false := hfr9 2; have hf9_3 : w18.frozen? ⟨go5, (x5_1 : Int).toNat * 4 + 3, none⟩ = false := hfr9 3; clear hcl9 hcc9 hfr9 hM9; replace p9 := eq_true p9; replace q9 := eq_true q9; have HX19 := aM (show Kd.R k55 55 w18 w0.heap.size (fun k_ => (P0_ k_ ∨ w.heap.size ≤ k_)) (.slice (some ⟨go5, 0, none⟩) x0_1.length co12) y262 from (uR HO_0)); obtain ⟨ce19, hcl19, hM19, hcc19, hfr19⟩ := Kd.R_elem HX19.out z55 (x5_1 : Int) (of_decide_eq_true (by first | (with_reducible assumption) | assumption)) (by have h_ : (x5_1 : Int) < ((x0_1.length : Int) : Int) := of_decide_eq_true (by first | (with_reducible assumption) | assumption); first | exact h_ | (have e_ := (Kd.R_reads' HO_0.out).1; omega) | simpa using h_); obtain rfl := k55_openM hM19; have HP19 := Kd.R_seg HX19.out (x5_1 : Int) (of_decide_eq_true (by first | (with_reducible assumption) | assumption)) (by have h_ : (x5_1 : Int) < ((x0_1.length : Int) : Int) := of_decide_eq_true (by first | (with_reducible assumption) | assumption); first | exact h_ | (have e_ := (Kd.R_reads' HO_0.out).1; omega) | simpa using h_) (seg := [.string t263]) (j := 2) hcl19 hcc19 (show 3 ≤ 4 from by decide) (x' := (⟨(rd_T55 y262 x5_1).f0, (rd_T55 y262 x5_1).f1, t263, (rd_T55 y262 x5_1).f3⟩ : S55)) (k55_mkM _ _ _ (⟨(rd_T55 y262 x5_1).f0, (rd_T55 y262 x5_1).f1, t263, (rd_T55 y262 x5_1).f3⟩ : S55) ) (fun _ hk => hk); have hx19_2 := hcc19 2 _ rfl; (try simp only [show (k55).sz = 4 from rfl, Nat.mul_one, Nat.add_zero] at hx19_2); have hf19_2 := hfr19 2; (try simp only [show (k55).sz = 4 from rfl, Nat.mul_one, Nat.add_zero] at hf19_2); clear hcl19 hcc19 hfr19 hM19) | ((with_reducible refine gate_store (t := 9) (p := 32) rfl ?_); refine store_event (t := 9) (p := 32) (v := ?vo_w20) (w1 := (w18.setCell ⟨go5, (x5_1 : Int).toNat * 4 + 2, none⟩ (.string t263))) ?hg ?ho ?hn ?hr ?_; (case ho => rfl); (case hg => rfl); (case hn => rfl); (case hr => first | (go_simp; done) | (go_simp; rfl)); intro w20 hw; have hg : w18.grownBy w20 (some go5) := (by rw [hw]; exact HP19.2); have hp_ : Kd.R k55 55 w20 w0.heap.size (fun k_ => (P0_ k_ ∨ w.heap.size ≤ k_)) (.slice (some ⟨go5, 0, none⟩) x0_1.length co12) y264 := (by rw [hw, Ny264.out]; exact HP19.1); clear HP19; have n0_ := aM (hp_); have n1_ := aM ((by rw [hw]; exact below_set (HB.out) GB5.out : Below w0.heap.size w0 w20)); have n2_ := aM (Kept.of_grown (S := (fun k_ => P0_ k_)) hg (by repeat (first | (with_reducible first | exact HK.out | apply Kept.alloc | apply Kept.drewN | apply Kept.drew) | exact HK.out)) (fun k_ e_ => (HO_0.out.1 k_ e_))); clear HO_0; clear HB; clear HK; have HO_0 := n0_; have HB := n1_; have HK := n2_; clear n0_ n1_ n2_; clear hg hw hp_) | ((with_reducible refine gate_callee (f := 89) rfl ?_); refine gL (some 38) Try.func89 #[.int .i64 (wrap64 ((wrap64 ((wrap64 (x1_1 + 1)) + 1)) + 1))] ?_; (with_reducible refine (laws_markText.calls k1 (wrap64 ((wrap64 ((wrap64 (x1_1 + 1)) + 1)) + 1)) t265 _ A10.out).mono ?_); rintro e w21 ⟨rfl, hb⟩; refine ⟨_, rfl, ?_⟩; have n0_ := aM (Kd.R_below (uR HO_0) hb); have n1_ := aM (Kept.below (S := (fun k_ => P0_ k_)) (by repeat (first | (with_reducible first | exact HK.out | apply Kept.alloc | apply Kept.drewN | apply Kept.drew) | exact HK.out)) hb); have n2_ := aM (below_step (uL HB) hb); clear HO_0; clear HK; clear HB; have HO_0 := n0_; have HK := n1_; have HB := n2_; clear n0_ n1_ n2_; (try clear hb); (try clear hb2); (try clear hk); (try clear hi); have p11 : 0 ≤ (x5_1 : Int) := of_decide_eq_true (by first | (with_reducible assumption) | assumption); have q11 : (x5_1 : Int) < ((x0_1.length : Int) : Int) := of_decide_eq_true (by first | (with_reducible assumption) | assumption); obtain ⟨ce11, hcl11, hM11, hcc11, hfr11⟩ := Kd.R_elem HO_0.out z55 (x5_1 : Int) p11 q11; obtain rfl := k55_openM hM11; have hx11_0 : w21.cell? ⟨go5, (x5_1 : Int).toNat * 4, none⟩ = some (.int .i64 ((rd_T55 y264 x5_1).f0)) := hcc11 0 _ rfl; have hx11_1 : w21.cell? ⟨go5, (x5_1 : Int).toNat * 4 + 1, none⟩ = some (.string ((rd_T55 y264 x5_1).f1)) := hcc11 1 _ rfl; have hx11_2 : w21.cell? ⟨go5, (x5_1 : Int).toNat * 4 + 2, none⟩ = some (.string ((rd_T55 y264 x5_1).f2)) := hcc11 2 _ rfl; have hx11_3 : w21.cell? ⟨go5, (x5_1 : Int).toNat * 4 + 3, none⟩ = some (.string ((rd_T55 y264 x5_1).f3)) := hcc11 3 _ rfl; have hf11_0 : w21.frozen? ⟨go5, (x5_1 : Int).toNat * 4, none⟩ = false := hfr11 0; have hf11_1 : w21.frozen? ⟨go5, (x5_1 : Int).toNat * 4 + 1, none⟩ = false := hfr11 1; have hf11_2 : w21.frozen? ⟨go5, (x5_1 : Int).toNat * 4 + 2, none⟩ = false := hfr11 2; have hf11_3 : w21.frozen? ⟨go5, (x5_1 : Int).toNat * 4 + 3, none⟩ = false := hfr11 3; clear hcl11 hcc11 hfr11 hM11; replace p11 := eq_true p11; replace q11 := eq_true q11; have HX22 := aM (show Kd.R k55 55 w21 w0.heap.size (fun k_ => (P0_ k_ ∨ w.heap.size ≤ k_)) (.slice (some ⟨go5, 0, none⟩) x0_1.length co12) y264 from (uR HO_0)); obtain ⟨ce22, hcl22, hM22, hcc22, hfr22⟩ := Kd.R_elem HX22.out z55 (x5_1 : Int) (of_decide_eq_true (by first | (with_reducible assumption) | assumption)) (by have h_ : (x5_1 : Int) < ((x0_1.length : Int) : Int) := of_decide_eq_true (by first | (with_reducible assumption) | assumption); first | exact h_ | (have e_ := (Kd.R_reads' HO_0.out).1; omega) | simpa using h_); obtain rfl := k55_openM hM22; have HP22 := Kd.R_seg HX22.out (x5_1 : Int) (of_decide_eq_true (by first | (with_reducible assumption) | assumption)) (by have h_ : (x5_1 : Int) < ((x0_1.length : Int) : Int) := of_decide_eq_true (by first | (with_reducible assumption) | assumption); first | exact h_ | (have e_ := (Kd.R_reads' HO_0.out).1; omega) | simpa using h_) (seg := [.string t265]) (j := 3) hcl22 hcc22 (show 4 ≤ 4 from by decide) (x' := (⟨(rd_T55 y264 x5_1).f0, (rd_T55 y264 x5_1).f1, (rd_T55 y264 x5_1).f2, t265⟩ : S55)) (k55_mkM _ _ _ (⟨(rd_T55 y264 x5_1).f0, (rd_T55 y264 x5_1).f1, (rd_T55 y264 x5_1).f2, t265⟩ : S55) ) (fun _ hk => hk); have hx22_3 := hcc22 3 _ rfl; (try simp only [show (k55).sz = 4 from rfl, Nat.mul_one, Nat.add_zero] at hx22_3); have hf22_3 := hfr22 3; (try simp only [show (k55).sz = 4 from rfl, Nat.mul_one, Nat.add_zero] at hf22_3); clear hcl22 hcc22 hfr22 hM22) | ((with_reducible refine gate_store (t := 9) (p := 40) rfl ?_); refine store_event (t := 9) (p := 40) (v := ?vo_w23) (w1 := (w21.setCell ⟨go5, (x5_1 : Int).toNat * 4 + 3, none⟩ (.string t265))) ?hg ?ho ?hn ?hr ?_; (case ho => rfl); (case hg => rfl); (case hn => rfl); (case hr => first | (go_simp; done) | (go_simp; rfl)); intro w23 hw; have hg : w21.grownBy w23 (some go5) := (by rw [hw]; exact HP22.2); have hp_ : Kd.R k55 55 w23 w0.heap.size (fun k_ => (P0_ k_ ∨ w.heap.size ≤ k_)) (.slice (some ⟨go5, 0, none⟩) x0_1.length co12) y266 := (by rw [hw, Ny266.out]; exact HP22.1); clear HP22; have n0_ := aM (hp_); have n1_ := aM ((by rw [hw]; exact below_set (HB.out) GB5.out : Below w0.heap.size w0 w23)); have n2_ := aM (Kept.of_grown (S := (fun k_ => P0_ k_)) hg (by repeat (first | (with_reducible first | exact HK.out | apply Kept.alloc | apply Kept.drewN | apply Kept.drew) | exact HK.out)) (fun k_ e_ => (HO_0.out.1 k_ e_))); clear HO_0; clear HB; clear HK; have HO_0 := n0_; have HB := n1_; have HK := n2_; clear n0_ n1_ n2_; clear hg hw hp_))
     go_roundg k1
     case measure => have := HK1.out; omega
     case rel => exact ⟨(y266), (wrap64 ((wrap64 ((wrap64 ((wrap64 (x1_1 + 1)) + 1)) + 1)) + 1)), (wrap64 (x5_1 + 1)), (by first | rfl | (simp; done) | (simp [*]; done)), (by first | rfl | (simp; done) | (simp [*]; done)), H', ⟨by have := HK1.out; omega⟩, ⟨by (with_reducible repeat first | apply rA | apply rN | apply rD); exact HO_0.out⟩, ⟨by repeat (first | (with_reducible first | exact HK.out | apply Kept.alloc | apply Kept.drewN | apply Kept.drew) | exact HK.out)⟩, ⟨uL HB⟩⟩
    ·rw [if_neg c4] at H
     exact absurd H (by simp)
   ·rw [if_neg c3] at H
    have c3b0 : decide (x5_1 < (x0_1.length : Int)) = false := decide_eq_false c3
    clear c3
    simp only [Option.some.injEq, Prod.mk.injEq] at H
    obtain ⟨rfl, rfl⟩ := H
    obtain ⟨Ao24, co24, eo24⟩ := Kd.R_slice HO_0.out
    subst eo24
    go_wp2
    go_ret
    exact ⟨by first | rfl | (simp [errW_none, errW_some] <;> rfl) | (simp [*, errW_none, errW_some] <;> rfl), by (with_reducible repeat first | apply rA | apply rN | apply rD); exact HO_0.out, by repeat (first | (with_reducible first | exact HB.out | apply lA | apply lN | apply lD) | exact HB.out), by repeat (first | (with_reducible first | exact HK.out | apply Kept.alloc | apply Kept.drewN | apply Kept.drew) | exact HK.out)⟩

end Go.Proofs.Ytidfhfaekdahpaa.QFnExactDoActs
