-- Own work (wip/turnprint.py over the kit's print).
import Derived.Test.YtidfhfaekdahpaaQFnActsx0
import Derived.Test.YtidfhfaekdahpaaQFnActsx2
import Derived.Test.YtidfhfaekdahpaaQFnActsx4
namespace Go.Proofs.Ytidfhfaekdahpaa.QFnActs
open Go.RowKit Go.Proofs.YtidfhfaekdahpaaW.PrintWords Go.Proofs.YtidfhfaekdahpaaW.PrintLast Go.Proofs.YtidfhfaekdahpaaW.PrintMore
attribute [local go_sem] max2_int min2_int max_two min_two max_three min_three max_four min_four   -- for this text's walks alone
set_option linter.unusedVariables false
set_option linter.unusedSimpArgs false

/-! ### impl_Disk_do: function 87 (given by the session) -/
theorem impl_Disk_do.gkeep {w w' : World} {g k : Nat} {x : Obj} (hg : w.grownBy w' (some g)) (hk : w.heap[k]? = some x) (hne : k ≠ g) : w'.heap[k]? = some x := (hg.block k (blk_lt hk) (fun e => hne (by injection e))).trans hk
theorem impl_Disk_do.R_blk {w w' : World} {base : Nat} {v : Value} {l : List S45} (h : Kd.R k45 45 w base (fun _ => True) v l) (hk : ∀ g, v.ownBlock = some g → w'.heap[g]? = w.heap[g]?) : Kd.R k45 45 w' base (fun _ => True) v l := by
 obtain ⟨A, c, rfl⟩ := Kd.R_slice h
 cases A with
 | none =>
  have hl : l = [] := by
   obtain ⟨_, inner, ⟨_, hcase⟩, hr⟩ := h
   rcases hcase with ⟨hv, _⟩ | ⟨g', cap', cur, hv, _⟩
   ·injection hv with h1 h2 h3
    exact List.eq_nil_of_length_eq_zero h2
   ·injection hv with h1
    cases h1
  have hc : c = 0 := by
   obtain ⟨_, inner, ⟨_, hcase⟩, hr⟩ := h
   rcases hcase with ⟨hv, _⟩ | ⟨g', cap', cur, hv, _⟩
   ·injection hv
   ·injection hv with h1
    cases h1
  subst hl; subst hc
  exact Kd.R_nil _ _ _ _ _
 | some ad =>
  obtain ⟨g, rfl⟩ : ∃ g, ad = ⟨g, 0, none⟩ := by
   obtain ⟨_, _, ⟨_, hcase⟩, _⟩ := h
   rcases hcase with ⟨hv, _⟩ | ⟨g', cap', cur, hv, _⟩
   ·injection hv with h1
    cases h1
   ·injection hv with h1 h2 h3
    injection h1 with h1
    exact ⟨g', h1⟩
  obtain ⟨_, hb, hnc, hcm, cur, hh, hcs, ht⟩ := impl_File_135.R_flat h
  exact impl_File_135.R_of_flat rfl hb hnc hcm cur ((hk g (by simp only [Value.ownBlock])).trans hh) hcs ht
structure impl_Disk_do.DS (w0 w : World) (base gb ga : Nat) (ca : Array Value) (v : Value) (l : List S45) (S : Nat → Prop) : Prop where
 bk : w.heap[gb]? = some (.cells #[v] 30 (0, 0))
 ba : w.heap[ga]? = some (.cells ca 55 (0, 0))
 hr : Kd.R k45 45 w base (fun _ => True) v l
 fr : impl_Disk_put.FrS w0 w S
theorem impl_Disk_do.DS.old {w0 w : World} {base gb ga : Nat} {ca : Array Value} {v : Value} {l : List S45} {S : Nat → Prop} (h : impl_Disk_do.DS w0 w base gb ga ca v l S) : ∀ g, v.ownBlock = some g → g < w.heap.size := fun g hg => by
 obtain ⟨cells, hcells⟩ := Kd.R_typed h.hr g hg
 exact blk_lt hcells
theorem impl_Disk_do.DS.below {w0 w w' : World} {base gb ga : Nat} {ca : Array Value} {v : Value} {l : List S45} {S : Nat → Prop} (h : impl_Disk_do.DS w0 w base gb ga ca v l S) (hb : Below w.heap.size w w') : impl_Disk_do.DS w0 w' base gb ga ca v l S :=
 ⟨blk_below h.bk hb, blk_below h.ba hb, impl_Disk_do.R_blk h.hr (fun g hg => hb.block g (h.old g hg)), h.fr.trans (impl_Disk_put.FrS.ofBelow (S := S) hb) (fun _ _ hk => hk)⟩
/-- a box of the call's own is written -/
theorem impl_Disk_do.DS.own {w0 w w' : World} {base gb ga gf : Nat} {ca cf : Array Value} {v : Value} {l : List S45} {S : Nat → Prop} (h : impl_Disk_do.DS w0 w base gb ga ca v l S) (hg : w.grownBy w' (some gf)) (hf : w.heap[gf]? = some (.cells cf 45 (0, 0))) (hne : some gf ≠ v.ownBlock) (hnew : w0.heap.size ≤ gf) : impl_Disk_do.DS w0 w' base gb ga ca v l S :=
 ⟨impl_Disk_do.gkeep hg h.bk (fun e => by subst e; have := h.bk.symm.trans hf; simp at this), impl_Disk_do.gkeep hg h.ba (fun e => by subst e; have := h.ba.symm.trans hf; simp at this),
  impl_Disk_do.R_blk h.hr (fun g hg2 => hg.block g (h.old g hg2) (fun e => hne (by rw [hg2, ← e]))), h.fr.trans (impl_Disk_put.FrS.ofGrown (S := fun k => k = gf) hg (fun k hk => by injection hk with hk; exact hk.symm)) (fun j hj hk => by omega)⟩
theorem impl_Disk_do.cur_eq {cur : Array Value} {xs : List Value} (h : cur.toList = xs) : cur = xs.toArray := by rw [← h]
def impl_Disk_do.addF (nm tx : ByteArray) (l : List S45) : S45 := let x := if impl_Disk_place.has nm l = true then l.getD (impl_Disk_place.idx nm l) z45 else ⟨nm, ⟨#[]⟩, 0⟩; ⟨x.f0, x.f1 ++ tx, x.f2⟩
theorem impl_Disk_do.size45 : (Try.prog.info? 45).map (·.size) = some 3 := by
 obtain ⟨i0, hi, hzz⟩ := Option.map_eq_some_iff.1 info45
 simp only [Prod.mk.injEq] at hzz
 rw [hi]; simp [hzz.2.1]
theorem impl_Disk_do.size9 : (Try.prog.info? 9).map (·.size) = some 1 := by kernel_rfl
theorem impl_Disk_do.DS.put {w0 w w' : World} {base gb ga : Nat} {ca : Array Value} {v v' : Value} {l l' : List S45} {S : Nat → Prop} (h : impl_Disk_do.DS w0 w base gb ga ca v l S) (hf : impl_Disk_put.FrS w w' (fun k => k = gb ∨ some k = v.ownBlock)) (hb : w'.heap[gb]? = some (.cells #[v'] 30 (0, 0))) (hr : Kd.R k45 45 w' base (fun _ => True) v' l') (hS : ∀ k, k < w0.heap.size → (k = gb ∨ some k = v.ownBlock) → S k) : impl_Disk_do.DS w0 w' base gb ga ca v' l' S :=
 ⟨hb, (hf.block ga (blk_lt h.ba) (fun e => by
  rcases e with e | e
  ·subst e; have := h.ba.symm.trans h.bk; simp at this
  ·obtain ⟨cells, hcells⟩ := Kd.R_typed h.hr ga e.symm
   have := h.ba.symm.trans hcells; simp at this)).trans h.ba, hr, h.fr.trans hf hS⟩
theorem impl_Disk_do.boxkeep {w w' : World} {gb gf : Nat} {v : Value} {cf : Array Value} (hf : impl_Disk_put.FrS w w' (fun k => k = gb ∨ some k = v.ownBlock)) (hg : w.heap[gf]? = some (.cells cf 45 (0, 0))) (hb : w.heap[gb]? = some (.cells #[v] 30 (0, 0))) (hn : some gf ≠ v.ownBlock) : w'.heap[gf]? = some (.cells cf 45 (0, 0)) :=
 (hf.block gf (blk_lt hg) (fun e => by
  rcases e with e | e
  ·subst e; have := hg.symm.trans hb; simp at this
  ·exact hn e)).trans hg
theorem impl_Disk_do.DS.elem {w0 w : World} {base gb ga g c : Nat} {ca : Array Value} {l : List S45} {S : Nat → Prop} (h : impl_Disk_do.DS w0 w base gb ga ca (.slice (some ⟨g, 0, none⟩) l.length c) l S) {i : Nat} (hi : i < l.length) {x0 x1 : ByteArray} {x2 : Int} (hx : (⟨x0, x1, x2⟩ : S45) = l.getD i z45) :
 w.cell? ⟨g, i * 3, none⟩ = some (.string x0) ∧ w.cell? ⟨g, i * 3 + 1, none⟩ = some (.string x1) ∧ w.cell? ⟨g, i * 3 + 2, none⟩ = some (.int .i64 x2) := by
 obtain ⟨ad, e, h0, h1, h2⟩ := at_T45 (Kd.R_reads' h.hr).2.2 (i : Int) (by omega) (by omega)
 cases e
 simp only [Int.toNat_natCast] at h0 h1 h2
 have hy : rd_T45 l (i : Int) = ⟨x0, x1, x2⟩ := hx.symm
 have e : (⟨g, 0, none⟩ : Addr).add (i * 3) = ⟨g, i * 3, none⟩ := by rw [add_plain]
 rw [hy, e] at h0 h1 h2
 exact ⟨h0, h1, h2⟩
theorem impl_Disk_do.has_lt {nm : ByteArray} {l : List S45} (hh : impl_Disk_place.has nm l = true) : impl_Disk_place.idx nm l < l.length := by
 rw [impl_Disk_place.has, Bool.and_eq_true] at hh
 exact of_decide_eq_true hh.1
theorem impl_Disk_do.row_some {w : World} {base : Nat} {A : Option Addr} {c : Nat} {l : List S45} (h : Kd.R k45 45 w base (fun _ => True) (.slice A l.length c) l) (hl : 0 < l.length) : ∃ g, A = some ⟨g, 0, none⟩ := by
 obtain ⟨_, _, ⟨_, hcase⟩, _⟩ := h
 rcases hcase with ⟨hv, _⟩ | ⟨g', cap', cur, hv, _⟩
 ·injection hv with h1 h2 h3
  omega
 ·injection hv with h1 h2 h3
  exact ⟨g', h1⟩
/-- a row of its own grows, or is written -/
theorem impl_Disk_do.DS.grow {w0 w w' : World} {base gb ga : Nat} {ca : Array Value} {v : Value} {l l' : List S45} {S : Nat → Prop} {v' : Value} (h : impl_Disk_do.DS w0 w base gb ga ca v l S) (hg : w.grownBy w' v.ownBlock) (hr : Kd.R k45 45 w' base (fun _ => True) v' l') (hS : ∀ k, v.ownBlock = some k → S k) : w'.heap[gb]? = some (.cells #[v] 30 (0, 0)) ∧ w'.heap[ga]? = some (.cells ca 55 (0, 0)) ∧ impl_Disk_put.FrS w0 w' S :=
 ⟨(hg.block gb (blk_lt h.bk) (Kd.R_ne h.hr h.bk (by decide))).trans h.bk, (hg.block ga (blk_lt h.ba) (Kd.R_ne h.hr h.ba (by decide))).trans h.ba, h.fr.trans (impl_Disk_put.FrS.ofGrown (S := S) hg hS) (fun _ _ hk => hk)⟩
theorem impl_Disk_do.DS.keep {w0 w : World} {base gb ga g c : Nat} {ca : Array Value} {l : List S45} {S : Nat → Prop} (h : impl_Disk_do.DS w0 w base gb ga ca (.slice (some ⟨g, 0, none⟩) l.length c) l S) {i : Nat} (hi : i < l.length) {x0 x1 : ByteArray} {x2 : Int} (hx : (⟨x0, x1, x2⟩ : S45) = l.getD i z45) (hS : S g) (n : Int) :
 impl_Disk_do.DS w0 (w.setCell ⟨g, i * 3 + 2, none⟩ (.int .i64 n)) base gb ga ca (.slice (some ⟨g, 0, none⟩) l.length c) (l.set i ⟨x0, x1, n⟩) S := by
 obtain ⟨cs, hcl, hM, hcc, hfr⟩ := Kd.R_elem h.hr z45 (i : Int) (by omega) (by omega)
 rw [Int.toNat_natCast, ← hx] at hM
 obtain rfl := k45_openM hM
 have hs := Kd.R_seg h.hr (i : Int) (by omega) (by omega) (c := [.string x0, .string x1, .int .i64 x2]) (seg := [.int .i64 n]) (j := 2) hcl hcc (Nat.le_refl 3) (x' := ⟨x0, x1, n⟩) (okp := fun _ => False) (by
  have h1 := k45_mkM w base (fun _ => False) ⟨x0, x1, n⟩
  exact h1) (fun _ h => h.elim)
 obtain ⟨h1, h2⟩ := hs
 rw [Int.toNat_natCast] at h1 h2
 obtain ⟨e1, e2, e3⟩ := impl_Disk_do.DS.grow h (by simpa [Value.ownBlock] using h2) h1 (fun k hk => by
  have : some g = some k := by simpa [Value.ownBlock] using hk
  injection this with this
  rw [← this]; exact hS)
 exact ⟨e1, e2, h1, e3⟩
theorem impl_Disk_do.DS.frz {w0 w : World} {base gb ga g c : Nat} {ca : Array Value} {l : List S45} {S : Nat → Prop} (h : impl_Disk_do.DS w0 w base gb ga ca (.slice (some ⟨g, 0, none⟩) l.length c) l S) (j : Nat) : w.frozen? ⟨g, j, none⟩ = false := by
 obtain ⟨_, _, _, _, cur, hh, _, _⟩ := impl_File_135.R_flat h.hr
 exact blk_frozen hh j
theorem impl_Disk_do.DS.drew {w0 w : World} {base gb ga : Nat} {ca : Array Value} {v : Value} {l : List S45} {S : Nat → Prop} (h : impl_Disk_do.DS w0 w base gb ga ca v l S) : impl_Disk_do.DS w0 w.drew base gb ga ca v l S := h.below (Below.drew (Below.refl _ _))
theorem impl_Disk_do.size28 : (Try.prog.info? 28).map (·.size) = some 1 := by kernel_rfl
theorem impl_Disk_do.DS.lay3 {w0 w w' : World} {base gb ga : Nat} {ca : Array Value} {v u : Value} {l' : List S45} {S : Nat → Prop} (hbk : w.heap[gb]? = some (.cells #[v] 30 (0, 0))) (hba : w.heap[ga]? = some (.cells ca 55 (0, 0))) (hfr : impl_Disk_put.FrS w0 w S) (hr : Kd.R k45 45 w base (fun _ => True) u l') (hg : w.grownBy w' (some gb)) (hn : w'.heap[gb]? = some (.cells #[u] 30 (0, 0))) (hS : S gb) : impl_Disk_do.DS w0 w' base gb ga ca u l' S :=
 ⟨hn, impl_Disk_do.gkeep hg hba (fun e => by subst e; have := hba.symm.trans hbk; simp at this), impl_Disk_do.R_blk hr (fun g hg2 => by
  obtain ⟨cells, hcells⟩ := Kd.R_typed hr g hg2
  exact hg.block g (blk_lt hcells) (fun e => Kd.R_ne hr hbk (by decide) (by rw [hg2, ← e]))), hfr.trans (impl_Disk_put.FrS.ofGrown (S := S) hg (fun k hk => by injection hk with hk; rw [← hk]; exact hS)) (fun _ _ hk => hk)⟩
set_option maxHeartbeats 4000000 in
set_option maxRecDepth 100000 in
theorem impl_Disk_do.do_add_new (gb base : Nat) (A : Option Addr) (c : Nat) (l : List S45) (nm tx tt : ByteArray) (w : World) (hR : Kd.R k45 45 w base (fun _ => True) (.slice A l.length c) l) (hb : w.heap[gb]? = some (.cells #[.slice A l.length c] 30 (0, 0))) (hl : l.length ≤ 1099511627775) (hbw : base ≤ w.heap.size) (hh : impl_Disk_place.has nm l = false) (htx : ¬ 9223372036854775807 < tx.size) (b : Bool) (hok : impl_fileOk.f nm (⟨#[]⟩ ++ tx) 0 = some b) :
 Calls Try.prog 87 #[.pointer (some ⟨gb, 0, none⟩), .agg #[.int .i64 1, .string nm, .string tx, .string tt]] w fun e w' => e = .returned (.bool (tt.toList.isEmpty && b && decide (((impl_Disk_put.putL (impl_Disk_do.addF nm tx l) l).length : Int) ≤ 30))) ∧ ∃ v', w'.heap[gb]? = some (.cells #[v'] 30 (0, 0)) ∧ Kd.R k45 45 w' base (fun _ => True) v' (impl_Disk_put.putL (impl_Disk_do.addF nm tx l) l) ∧ impl_Disk_put.FrS w w' (fun k => k = gb ∨ some k = (Value.slice A l.length c).ownBlock) := by
 have HOLD : Aside0 (∀ g, (Value.slice A l.length c).ownBlock = some g → g < w.heap.size) := ⟨fun g hg => by
  obtain ⟨cells, hcells⟩ := Kd.R_typed hR g hg
  exact blk_lt hcells⟩
 have HR := Aside0.mk hR
 have BK := Aside0.mk hb
 have HBW := Aside0.mk hbw
 clear hR hb hbw
 go_enter Try.func87, Try.ntmps87
 go_wp2_with (first | ((with_reducible refine gate_dst (N := 3) rfl ?_); refine bxE 3 #[.int .i64 1, .string nm, .string tx, .string tt] 55 ?_; intro ga hg_ w1 hbox_ hb_; have H1 := Aside0.mk hb_; have BA1 := Aside0.mk hbox_; have GA1 := Aside0.mk hg_; clear hb_ hbox_ hg_; have BK1 := Aside0.mk (blk_below BK.out H1.out); have HR1 := Aside0.mk (Kd.R_below HR.out H1.out); have hca0 := czA BA1.out 0 (.int .i64 1); have hca1 := czA BA1.out 1 (.string nm); have hca2 := czA BA1.out 2 (.string tx); have hca3 := czA BA1.out 3 (.string tt)))
 go_at_call 120
 refine (impl_Disk_place.calls gb A c l nm w1 (Kd.R_reads' HR1.out).2.2 BK1.out (by omega)).mono ?_
 rintro e w2 ⟨rfl, hd_⟩
 obtain ⟨nd, hnd⟩ := hd_.out
 have D2 : Aside0 (impl_Disk_do.DS w w2 base gb ga #[.int .i64 1, .string nm, .string tx, .string tt] (.slice A l.length c) l (fun k => k = gb ∨ some k = (Value.slice A l.length c).ownBlock)) := ⟨⟨by rw [hnd]; exact blk_drewN BK1.out nd, by rw [hnd]; exact blk_drewN BA1.out nd, by rw [hnd]; exact Kd.R_drewN HR1.out nd, by rw [hnd]; exact impl_Disk_put.FrS.ofBelow (pw_below_drewN H1.out nd)⟩⟩
 have HS2 := Aside0.mk (show w.heap.size ≤ w2.heap.size from D2.out.fr.rest.size)
 clear hnd hca0 hca1 hca2 hca3 hd_ HR1 BK1 BA1 H1
 have hca0 := czA D2.out.ba 0 (.int .i64 1)
 have hca1 := czA D2.out.ba 1 (.string nm)
 have hca2 := czA D2.out.ba 2 (.string tx)
 have hca3 := czA D2.out.ba 3 (.string tt)
 have hcz := czA D2.out.bk 0 (.slice A l.length c)
 have HA := Aside0.mk (show impl_Disk_do.addF nm tx l = ⟨nm, ⟨#[]⟩ ++ tx, 0⟩ by simp [impl_Disk_do.addF, hh])
 rw [hh]
 generalize impl_Disk_place.idx nm l = i
 clear hh
 go_wp2_with (first | ((with_reducible refine gate_dst (N := 7) rfl ?_); refine bxE 7 #[.string ⟨#[]⟩, .string ⟨#[]⟩, .int .i64 0] 45 ?_; intro gf hg_ w3 hbox_ hb_; have H3 := Aside0.mk hb_; have BF3 := Aside0.mk hbox_; have GF3 := Aside0.mk hg_; clear hb_ hbox_ hg_; have D3 := Aside0.mk (D2.out.below H3.out); have HN := Aside0.mk (show some gf ≠ (Value.slice A l.length c).ownBlock from fun e => by have h1 := D2.out.old gf e.symm; have h2 := GF3.out; omega); have HGF := Aside0.mk (show w.heap.size ≤ gf by have h1 := HS2.out; have h2 := GF3.out; omega); have hca0 := czA D3.out.ba 0 (.int .i64 1); have hca1 := czA D3.out.ba 1 (.string nm); have hca2 := czA D3.out.ba 2 (.string tx); have hca3 := czA D3.out.ba 3 (.string tt); have hcz := czA D3.out.bk 0 (.slice A l.length c); have hcf0 := czA BF3.out 0 (.string ⟨#[]⟩); have hcf1 := czA BF3.out 1 (.string ⟨#[]⟩); have hcf2 := czA BF3.out 2 (.int .i64 0)) | (refine store_blk rfl rfl 45 (.tmp 7) (.tmp 21) rfl (g := gf) (off := 0) (e := 45) (cur := #[.string ⟨#[]⟩, .string ⟨#[]⟩, .int .i64 0]) (.agg #[.string nm, .string ⟨#[]⟩, .int .i64 0]) [.string nm, .string ⟨#[]⟩, .int .i64 0] ?sp ?sx rfl impl_Disk_do.size45 BF3.out (by simp) (fun q hq => by simp at hq; rcases hq with rfl | rfl | rfl <;> rfl) ?_; (case sp => rfl); (case sx => first | rfl | (simp [Act.eval]; done)); intro w4 cur_ h_ hl_ hg_; obtain rfl := impl_Disk_do.cur_eq hl_; have BF4 : Aside0 (w4.heap[gf]? = some (.cells #[.string nm, .string ⟨#[]⟩, .int .i64 0] 45 (0, 0))) := ⟨h_⟩; have D4 := Aside0.mk (impl_Disk_do.DS.own D3.out hg_ BF3.out HN.out HGF.out); clear h_ hl_ hg_; have hca0 := czA D4.out.ba 0 (.int .i64 1); have hca1 := czA D4.out.ba 1 (.string nm); have hca2 := czA D4.out.ba 2 (.string tx); have hca3 := czA D4.out.ba 3 (.string tt); have hcz := czA D4.out.bk 0 (.slice A l.length c); have hcf0 := czA BF4.out 0 (.string nm); have hcf1 := czA BF4.out 1 (.string ⟨#[]⟩); have hcf2 := czA BF4.out 2 (.int .i64 0)) | (refine store_blk rfl rfl 9 (.tmp 35) (.tmp 34) rfl (g := gf) (off := 1) (e := 45) (cur := #[.string nm, .string ⟨#[]⟩, .int .i64 0]) (.string (⟨#[]⟩ ++ tx)) [.string (⟨#[]⟩ ++ tx)] ?sp ?sx rfl impl_Disk_do.size9 BF4.out (by simp) (fun q hq => by simp at hq; rcases hq with rfl <;> rfl) ?_; (case sp => rfl); (case sx => first | rfl | (simp [Act.eval]; done)); intro w5 cur_ h_ hl_ hg_; obtain rfl := impl_Disk_do.cur_eq hl_; have BF5 : Aside0 (w5.heap[gf]? = some (.cells #[.string nm, .string (⟨#[]⟩ ++ tx), .int .i64 0] 45 (0, 0))) := ⟨h_⟩; have D5 := Aside0.mk (impl_Disk_do.DS.own D4.out hg_ BF4.out HN.out HGF.out); clear h_ hl_ hg_; have hca0 := czA D5.out.ba 0 (.int .i64 1); have hca1 := czA D5.out.ba 1 (.string nm); have hca2 := czA D5.out.ba 2 (.string tx); have hca3 := czA D5.out.ba 3 (.string tt); have hcz := czA D5.out.bk 0 (.slice A l.length c); have hcf0 := czA BF5.out 0 (.string nm); have hcf1 := czA BF5.out 1 (.string (⟨#[]⟩ ++ tx)); have hcf2 := czA BF5.out 2 (.int .i64 0)))
 have HSK : Aside0 (∀ k, k < w.heap.size → (k = gb ∨ some k = (Value.slice A l.length c).ownBlock) → (k = gb ∨ some k = (Value.slice A l.length c).ownBlock)) := ⟨fun _ _ h => h⟩
 have hl2 : l.length ≤ 1099511627776 := Nat.le_trans hl (by decide)
 have hb2 : base ≤ w5.heap.size := Nat.le_trans HBW.out D5.out.fr.rest.size
 have hput := impl_Disk_put.calls gb base _ c l ⟨nm, (⟨#[]⟩ ++ tx), 0⟩ w5 D5.out.hr D5.out.bk hl2 hb2
 dsimp only at hput
 go_at_call 121
 refine hput.mono ?_
 clear hput
 rintro e w9 ⟨rfl, v6, hb6, hr6, hf6⟩
 obtain ⟨A6, c6, rfl⟩ := Kd.R_slice hr6
 rw [← HA.out] at hb6 hr6
 obtain ⟨n6, hn6⟩ : ∃ n6, n6 = (impl_Disk_put.putL (impl_Disk_do.addF nm tx l) l).length := ⟨_, rfl⟩
 rw [← hn6] at hb6 hr6
 have HN6 := Aside0.mk hn6
 have D6 := Aside0.mk (impl_Disk_do.DS.put D5.out hf6 hb6 hr6 HSK.out)
 have BF6 := Aside0.mk (impl_Disk_do.boxkeep hf6 BF5.out D5.out.bk HN.out)
 clear hb6 hr6 hf6 hn6
 have hca0 := czA D6.out.ba 0 (.int .i64 1)
 have hca1 := czA D6.out.ba 1 (.string nm)
 have hca2 := czA D6.out.ba 2 (.string tx)
 have hca3 := czA D6.out.ba 3 (.string tt)
 have hcz := czA D6.out.bk 0 (.slice A6 n6 c6)
 have hcf0 := czA BF6.out 0 (.string nm)
 have hcf1 := czA BF6.out 1 (.string (⟨#[]⟩ ++ tx))
 have hcf2 := czA BF6.out 2 (.int .i64 0)
 cases hte : tt.toList.isEmpty with
 | true =>
  cases b with
  | true =>
   go_wp2_with (first | (go_at_call 75; refine (impl_fileOk.calls _ _ _ true _ hok).mono ?_; rintro e w10 ⟨rfl, hb_⟩; have D7 := Aside0.mk (D6.out.below hb_); clear hb_; have hca0 := czA D7.out.ba 0 (.int .i64 1); have hca1 := czA D7.out.ba 1 (.string nm); have hca2 := czA D7.out.ba 2 (.string tx); have hca3 := czA D7.out.ba 3 (.string tt); have hcz := czA D7.out.bk 0 (.slice A6 n6 c6)))
   go_ret
   exact ⟨(show _ = Ending.returned (Value.bool (decide ((n6 : Int) ≤ 30))) from rfl).trans (by rw [HN6.out, hte]; simp), _, D7.out.bk, D7.out.hr, D7.out.fr⟩
  | false =>
   go_wp2_with (first | (go_at_call 75; refine (impl_fileOk.calls _ _ _ false _ hok).mono ?_; rintro e w10 ⟨rfl, hb_⟩; have D7 := Aside0.mk (D6.out.below hb_); clear hb_; have hca0 := czA D7.out.ba 0 (.int .i64 1); have hca1 := czA D7.out.ba 1 (.string nm); have hca2 := czA D7.out.ba 2 (.string tx); have hca3 := czA D7.out.ba 3 (.string tt); have hcz := czA D7.out.bk 0 (.slice A6 n6 c6)))
   go_ret
   exact ⟨(show _ = Ending.returned (Value.bool false) from rfl).trans (by rw [hte]; simp), _, D7.out.bk, D7.out.hr, D7.out.fr⟩
 | false =>
  go_wp2
  go_ret
  exact ⟨(show _ = Ending.returned (Value.bool false) from rfl).trans (by rw [hte]; simp), _, D6.out.bk, D6.out.hr, D6.out.fr⟩

set_option maxHeartbeats 4000000 in
set_option maxRecDepth 100000 in
theorem impl_Disk_do.do_add_has (gb base : Nat) (A : Option Addr) (c : Nat) (l : List S45) (nm tx tt : ByteArray) (w : World) (hR : Kd.R k45 45 w base (fun _ => True) (.slice A l.length c) l) (hb : w.heap[gb]? = some (.cells #[.slice A l.length c] 30 (0, 0))) (hl : l.length ≤ 1099511627775) (hbw : base ≤ w.heap.size) (hh : impl_Disk_place.has nm l = true) (x0 x1 : ByteArray) (x2 : Int) (hx : (⟨x0, x1, x2⟩ : S45) = l.getD (impl_Disk_place.idx nm l) z45) (htx : ¬ 9223372036854775807 < x1.size + tx.size) (b : Bool) (hok : impl_fileOk.f x0 (x1 ++ tx) x2 = some b) :
 Calls Try.prog 87 #[.pointer (some ⟨gb, 0, none⟩), .agg #[.int .i64 1, .string nm, .string tx, .string tt]] w fun e w' => e = .returned (.bool (tt.toList.isEmpty && b && decide (((impl_Disk_put.putL (impl_Disk_do.addF nm tx l) l).length : Int) ≤ 30))) ∧ ∃ v', w'.heap[gb]? = some (.cells #[v'] 30 (0, 0)) ∧ Kd.R k45 45 w' base (fun _ => True) v' (impl_Disk_put.putL (impl_Disk_do.addF nm tx l) l) ∧ impl_Disk_put.FrS w w' (fun k => k = gb ∨ some k = (Value.slice A l.length c).ownBlock) := by
 have HOLD : Aside0 (∀ g, (Value.slice A l.length c).ownBlock = some g → g < w.heap.size) := ⟨fun g hg => by
  obtain ⟨cells, hcells⟩ := Kd.R_typed hR g hg
  exact blk_lt hcells⟩
 have HR := Aside0.mk hR
 have BK := Aside0.mk hb
 have HBW := Aside0.mk hbw
 clear hR hb hbw
 go_enter Try.func87, Try.ntmps87
 go_wp2_with (first | ((with_reducible refine gate_dst (N := 3) rfl ?_); refine bxE 3 #[.int .i64 1, .string nm, .string tx, .string tt] 55 ?_; intro ga hg_ w1 hbox_ hb_; have H1 := Aside0.mk hb_; have BA1 := Aside0.mk hbox_; have GA1 := Aside0.mk hg_; clear hb_ hbox_ hg_; have BK1 := Aside0.mk (blk_below BK.out H1.out); have HR1 := Aside0.mk (Kd.R_below HR.out H1.out); have hca0 := czA BA1.out 0 (.int .i64 1); have hca1 := czA BA1.out 1 (.string nm); have hca2 := czA BA1.out 2 (.string tx); have hca3 := czA BA1.out 3 (.string tt)))
 go_at_call 120
 refine (impl_Disk_place.calls gb A c l nm w1 (Kd.R_reads' HR1.out).2.2 BK1.out (by omega)).mono ?_
 rintro e w2 ⟨rfl, hd_⟩
 obtain ⟨nd, hnd⟩ := hd_.out
 have D2 : Aside0 (impl_Disk_do.DS w w2 base gb ga #[.int .i64 1, .string nm, .string tx, .string tt] (.slice A l.length c) l (fun k => k = gb ∨ some k = (Value.slice A l.length c).ownBlock)) := ⟨⟨by rw [hnd]; exact blk_drewN BK1.out nd, by rw [hnd]; exact blk_drewN BA1.out nd, by rw [hnd]; exact Kd.R_drewN HR1.out nd, by rw [hnd]; exact impl_Disk_put.FrS.ofBelow (pw_below_drewN H1.out nd)⟩⟩
 have HS2 := Aside0.mk (show w.heap.size ≤ w2.heap.size from D2.out.fr.rest.size)
 clear hnd hca0 hca1 hca2 hca3 hd_ HR1 BK1 BA1 H1
 have hca0 := czA D2.out.ba 0 (.int .i64 1)
 have hca1 := czA D2.out.ba 1 (.string nm)
 have hca2 := czA D2.out.ba 2 (.string tx)
 have hca3 := czA D2.out.ba 3 (.string tt)
 have hcz := czA D2.out.bk 0 (.slice A l.length c)
 have HA := Aside0.mk (show impl_Disk_do.addF nm tx l = ⟨x0, x1 ++ tx, x2⟩ by unfold impl_Disk_do.addF; rw [if_pos hh, ← hx])
 have hil := impl_Disk_do.has_lt hh
 obtain ⟨g, rfl⟩ := impl_Disk_do.row_some D2.out.hr (by omega)
 rw [hh]
 have HX := Aside0.mk hx
 clear hx
 obtain ⟨i, hI⟩ : ∃ i, i = impl_Disk_place.idx nm l := ⟨_, rfl⟩
 rw [← hI] at hil HX ⊢
 have HII := Aside0.mk hI
 clear hh hI
 have hi0 : (0 : Int) ≤ (i : Int) := by omega
 have hi1 : (i : Int) < (l.length : Int) := by omega
 go_wp2_with (first | ((with_reducible refine gate_dst (N := 7) rfl ?_); refine bxE 7 #[.string ⟨#[]⟩, .string ⟨#[]⟩, .int .i64 0] 45 ?_; intro gf hg_ w3 hbox_ hb_; have H3 := Aside0.mk hb_; have BF3 := Aside0.mk hbox_; have GF3 := Aside0.mk hg_; clear hb_ hbox_ hg_; have D3 := Aside0.mk (D2.out.below H3.out); have HN := Aside0.mk (show some gf ≠ (Value.slice (some ⟨g, 0, none⟩) l.length c).ownBlock from fun e => by have h1 := D2.out.old gf e.symm; have h2 := GF3.out; omega); have HGF := Aside0.mk (show w.heap.size ≤ gf by have h1 := HS2.out; have h2 := GF3.out; omega); have hca0 := czA D3.out.ba 0 (.int .i64 1); have hca1 := czA D3.out.ba 1 (.string nm); have hca2 := czA D3.out.ba 2 (.string tx); have hca3 := czA D3.out.ba 3 (.string tt); have hcz := czA D3.out.bk 0 (.slice (some ⟨g, 0, none⟩) l.length c); have hcf0 := czA BF3.out 0 (.string ⟨#[]⟩); have hcf1 := czA BF3.out 1 (.string ⟨#[]⟩); have hcf2 := czA BF3.out 2 (.int .i64 0)) | (refine store_blk rfl rfl 45 (.tmp 7) (.tmp 21) rfl (g := gf) (off := 0) (e := 45) (cur := #[.string ⟨#[]⟩, .string ⟨#[]⟩, .int .i64 0]) (.agg #[.string nm, .string ⟨#[]⟩, .int .i64 0]) [.string nm, .string ⟨#[]⟩, .int .i64 0] ?sp ?sx rfl impl_Disk_do.size45 BF3.out (by simp) (fun q hq => by simp at hq; rcases hq with rfl | rfl | rfl <;> rfl) ?_; (case sp => rfl); (case sx => first | rfl | (simp [Act.eval]; done)); intro w4 cur_ h_ hl_ hg_; obtain rfl := impl_Disk_do.cur_eq hl_; have BF4 : Aside0 (w4.heap[gf]? = some (.cells #[.string nm, .string ⟨#[]⟩, .int .i64 0] 45 (0, 0))) := ⟨h_⟩; have D4 := Aside0.mk (impl_Disk_do.DS.own D3.out hg_ BF3.out HN.out HGF.out); clear h_ hl_ hg_; obtain ⟨hce0, hce1, hce2⟩ := impl_Disk_do.DS.elem D4.out hil HX.out; have hca0 := czA D4.out.ba 0 (.int .i64 1); have hca1 := czA D4.out.ba 1 (.string nm); have hca2 := czA D4.out.ba 2 (.string tx); have hca3 := czA D4.out.ba 3 (.string tt); have hcz := czA D4.out.bk 0 (.slice (some ⟨g, 0, none⟩) l.length c); have hcf0 := czA BF4.out 0 (.string nm); have hcf1 := czA BF4.out 1 (.string ⟨#[]⟩); have hcf2 := czA BF4.out 2 (.int .i64 0)) | (refine store_blk rfl rfl 45 (.tmp 7) (.tmp 29) rfl (g := gf) (off := 0) (e := 45) (cur := #[.string nm, .string ⟨#[]⟩, .int .i64 0]) (.agg #[.string x0, .string x1, .int .i64 x2]) [.string x0, .string x1, .int .i64 x2] ?sp ?sx rfl impl_Disk_do.size45 BF4.out (by simp) (fun q hq => by simp at hq; rcases hq with rfl | rfl | rfl <;> rfl) ?_; (case sp => rfl); (case sx => first | rfl | (simp [Act.eval]; done)); intro w5 cur_ h_ hl_ hg_; obtain rfl := impl_Disk_do.cur_eq hl_; have BF5 : Aside0 (w5.heap[gf]? = some (.cells #[.string x0, .string x1, .int .i64 x2] 45 (0, 0))) := ⟨h_⟩; have D5 := Aside0.mk (impl_Disk_do.DS.own D4.out hg_ BF4.out HN.out HGF.out); clear h_ hl_ hg_; have hca0 := czA D5.out.ba 0 (.int .i64 1); have hca1 := czA D5.out.ba 1 (.string nm); have hca2 := czA D5.out.ba 2 (.string tx); have hca3 := czA D5.out.ba 3 (.string tt); have hcz := czA D5.out.bk 0 (.slice (some ⟨g, 0, none⟩) l.length c); have hcf0 := czA BF5.out 0 (.string x0); have hcf1 := czA BF5.out 1 (.string x1); have hcf2 := czA BF5.out 2 (.int .i64 x2)) | (refine store_blk rfl rfl 9 (.tmp 35) (.tmp 34) rfl (g := gf) (off := 1) (e := 45) (cur := #[.string x0, .string x1, .int .i64 x2]) (.string (x1 ++ tx)) [.string (x1 ++ tx)] ?sp ?sx rfl impl_Disk_do.size9 BF5.out (by simp) (fun q hq => by simp at hq; rcases hq with rfl <;> rfl) ?_; (case sp => rfl); (case sx => first | rfl | (simp [Act.eval]; done)); intro w6 cur_ h_ hl_ hg_; obtain rfl := impl_Disk_do.cur_eq hl_; have BF6 : Aside0 (w6.heap[gf]? = some (.cells #[.string x0, .string (x1 ++ tx), .int .i64 x2] 45 (0, 0))) := ⟨h_⟩; have D6 := Aside0.mk (impl_Disk_do.DS.own D5.out hg_ BF5.out HN.out HGF.out); clear h_ hl_ hg_; have hca0 := czA D6.out.ba 0 (.int .i64 1); have hca1 := czA D6.out.ba 1 (.string nm); have hca2 := czA D6.out.ba 2 (.string tx); have hca3 := czA D6.out.ba 3 (.string tt); have hcz := czA D6.out.bk 0 (.slice (some ⟨g, 0, none⟩) l.length c); have hcf0 := czA BF6.out 0 (.string x0); have hcf1 := czA BF6.out 1 (.string (x1 ++ tx)); have hcf2 := czA BF6.out 2 (.int .i64 x2)))
 have HSK : Aside0 (∀ k, k < w.heap.size → (k = gb ∨ some k = (Value.slice (some ⟨g, 0, none⟩) l.length c).ownBlock) → (k = gb ∨ some k = (Value.slice (some ⟨g, 0, none⟩) l.length c).ownBlock)) := ⟨fun _ _ h => h⟩
 have hl2 : l.length ≤ 1099511627776 := Nat.le_trans hl (by decide)
 have hb2 : base ≤ w6.heap.size := Nat.le_trans HBW.out D6.out.fr.rest.size
 have hput := impl_Disk_put.calls gb base _ c l ⟨x0, (x1 ++ tx), x2⟩ w6 D6.out.hr D6.out.bk hl2 hb2
 dsimp only at hput
 go_at_call 121
 refine hput.mono ?_
 clear hput
 rintro e w9 ⟨rfl, v6, hb6, hr6, hf6⟩
 obtain ⟨A6, c6, rfl⟩ := Kd.R_slice hr6
 rw [← HA.out] at hb6 hr6
 obtain ⟨n6, hn6⟩ : ∃ n6, n6 = (impl_Disk_put.putL (impl_Disk_do.addF nm tx l) l).length := ⟨_, rfl⟩
 rw [← hn6] at hb6 hr6
 have HN6 := Aside0.mk hn6
 have D8 := Aside0.mk (impl_Disk_do.DS.put D6.out hf6 hb6 hr6 HSK.out)
 have BF8 := Aside0.mk (impl_Disk_do.boxkeep hf6 BF6.out D6.out.bk HN.out)
 clear hb6 hr6 hf6 hn6
 have hca0 := czA D8.out.ba 0 (.int .i64 1)
 have hca1 := czA D8.out.ba 1 (.string nm)
 have hca2 := czA D8.out.ba 2 (.string tx)
 have hca3 := czA D8.out.ba 3 (.string tt)
 have hcz := czA D8.out.bk 0 (.slice A6 n6 c6)
 have hcf0 := czA BF8.out 0 (.string x0)
 have hcf1 := czA BF8.out 1 (.string (x1 ++ tx))
 have hcf2 := czA BF8.out 2 (.int .i64 x2)
 cases hte : tt.toList.isEmpty with
 | true =>
  cases b with
  | true =>
   go_wp2_with (first | (go_at_call 75; refine (impl_fileOk.calls _ _ _ true _ hok).mono ?_; rintro e w10 ⟨rfl, hb_⟩; have D7 := Aside0.mk (D8.out.below hb_); clear hb_; have hca0 := czA D7.out.ba 0 (.int .i64 1); have hca1 := czA D7.out.ba 1 (.string nm); have hca2 := czA D7.out.ba 2 (.string tx); have hca3 := czA D7.out.ba 3 (.string tt); have hcz := czA D7.out.bk 0 (.slice A6 n6 c6)))
   go_ret
   exact ⟨(show _ = Ending.returned (Value.bool (decide ((n6 : Int) ≤ 30))) from rfl).trans (by rw [HN6.out, hte]; simp), _, D7.out.bk, D7.out.hr, D7.out.fr⟩
  | false =>
   go_wp2_with (first | (go_at_call 75; refine (impl_fileOk.calls _ _ _ false _ hok).mono ?_; rintro e w10 ⟨rfl, hb_⟩; have D7 := Aside0.mk (D8.out.below hb_); clear hb_; have hca0 := czA D7.out.ba 0 (.int .i64 1); have hca1 := czA D7.out.ba 1 (.string nm); have hca2 := czA D7.out.ba 2 (.string tx); have hca3 := czA D7.out.ba 3 (.string tt); have hcz := czA D7.out.bk 0 (.slice A6 n6 c6)))
   go_ret
   exact ⟨(show _ = Ending.returned (Value.bool false) from rfl).trans (by rw [hte]; simp), _, D7.out.bk, D7.out.hr, D7.out.fr⟩
 | false =>
  go_wp2
  go_ret
  exact ⟨(show _ = Ending.returned (Value.bool false) from rfl).trans (by rw [hte]; simp), _, D8.out.bk, D8.out.hr, D8.out.fr⟩

set_option maxHeartbeats 4000000 in
set_option maxRecDepth 100000 in
theorem impl_Disk_do.do_no1 (gb base : Nat) (A : Option Addr) (c : Nat) (l : List S45) (kd : Int) (nm tx tt : ByteArray) (w : World) (hR : Kd.R k45 45 w base (fun _ => True) (.slice A l.length c) l) (hb : w.heap[gb]? = some (.cells #[.slice A l.length c] 30 (0, 0))) (hl : l.length ≤ 1099511627775) (hbw : base ≤ w.heap.size) (hk1 : ¬ kd = 1) (hh : impl_Disk_place.has nm l = false) :
 Calls Try.prog 87 #[.pointer (some ⟨gb, 0, none⟩), .agg #[.int .i64 kd, .string nm, .string tx, .string tt]] w fun e w' => e = .returned (.bool false) ∧ ∃ v', w'.heap[gb]? = some (.cells #[v'] 30 (0, 0)) ∧ Kd.R k45 45 w' base (fun _ => True) v' (l) ∧ impl_Disk_put.FrS w w' (fun k => k = gb ∨ some k = (Value.slice A l.length c).ownBlock) := by
 have HOLD : Aside0 (∀ g, (Value.slice A l.length c).ownBlock = some g → g < w.heap.size) := ⟨fun g hg => by
  obtain ⟨cells, hcells⟩ := Kd.R_typed hR g hg
  exact blk_lt hcells⟩
 have HR := Aside0.mk hR
 have BK := Aside0.mk hb
 have HBW := Aside0.mk hbw
 clear hR hb hbw
 go_enter Try.func87, Try.ntmps87
 go_wp2_with (first | ((with_reducible refine gate_dst (N := 3) rfl ?_); refine bxE 3 #[.int .i64 kd, .string nm, .string tx, .string tt] 55 ?_; intro ga hg_ w1 hbox_ hb_; have H1 := Aside0.mk hb_; have BA1 := Aside0.mk hbox_; have GA1 := Aside0.mk hg_; clear hb_ hbox_ hg_; have BK1 := Aside0.mk (blk_below BK.out H1.out); have HR1 := Aside0.mk (Kd.R_below HR.out H1.out); have hca0 := czA BA1.out 0 (.int .i64 kd); have hca1 := czA BA1.out 1 (.string nm); have hca2 := czA BA1.out 2 (.string tx); have hca3 := czA BA1.out 3 (.string tt)))
 go_at_call 120
 refine (impl_Disk_place.calls gb A c l nm w1 (Kd.R_reads' HR1.out).2.2 BK1.out (by omega)).mono ?_
 rintro e w2 ⟨rfl, hd_⟩
 obtain ⟨nd, hnd⟩ := hd_.out
 have D2 : Aside0 (impl_Disk_do.DS w w2 base gb ga #[.int .i64 kd, .string nm, .string tx, .string tt] (.slice A l.length c) l (fun k => k = gb ∨ some k = (Value.slice A l.length c).ownBlock)) := ⟨⟨by rw [hnd]; exact blk_drewN BK1.out nd, by rw [hnd]; exact blk_drewN BA1.out nd, by rw [hnd]; exact Kd.R_drewN HR1.out nd, by rw [hnd]; exact impl_Disk_put.FrS.ofBelow (pw_below_drewN H1.out nd)⟩⟩
 have HS2 := Aside0.mk (show w.heap.size ≤ w2.heap.size from D2.out.fr.rest.size)
 clear hnd hca0 hca1 hca2 hca3 hd_ HR1 BK1 BA1 H1
 have hca0 := czA D2.out.ba 0 (.int .i64 kd)
 have hca1 := czA D2.out.ba 1 (.string nm)
 have hca2 := czA D2.out.ba 2 (.string tx)
 have hca3 := czA D2.out.ba 3 (.string tt)
 have hcz := czA D2.out.bk 0 (.slice A l.length c)
 rw [hh]
 generalize impl_Disk_place.idx nm l = i
 clear hh
 go_wp2
 go_ret
 exact ⟨rfl, _, D2.out.bk, D2.out.hr, D2.out.fr⟩

set_option maxHeartbeats 4000000 in
set_option maxRecDepth 100000 in
theorem impl_Disk_do.do_no2 (gb base : Nat) (A : Option Addr) (c : Nat) (l : List S45) (kd : Int) (nm tx tt : ByteArray) (w : World) (hR : Kd.R k45 45 w base (fun _ => True) (.slice A l.length c) l) (hb : w.heap[gb]? = some (.cells #[.slice A l.length c] 30 (0, 0))) (hl : l.length ≤ 1099511627775) (hbw : base ≤ w.heap.size) (hk1 : ¬ kd = 1) (hh : impl_Disk_place.has nm l = true) (htx : tx.toList.isEmpty = false) :
 Calls Try.prog 87 #[.pointer (some ⟨gb, 0, none⟩), .agg #[.int .i64 kd, .string nm, .string tx, .string tt]] w fun e w' => e = .returned (.bool false) ∧ ∃ v', w'.heap[gb]? = some (.cells #[v'] 30 (0, 0)) ∧ Kd.R k45 45 w' base (fun _ => True) v' (l) ∧ impl_Disk_put.FrS w w' (fun k => k = gb ∨ some k = (Value.slice A l.length c).ownBlock) := by
 have HOLD : Aside0 (∀ g, (Value.slice A l.length c).ownBlock = some g → g < w.heap.size) := ⟨fun g hg => by
  obtain ⟨cells, hcells⟩ := Kd.R_typed hR g hg
  exact blk_lt hcells⟩
 have HR := Aside0.mk hR
 have BK := Aside0.mk hb
 have HBW := Aside0.mk hbw
 clear hR hb hbw
 go_enter Try.func87, Try.ntmps87
 go_wp2_with (first | ((with_reducible refine gate_dst (N := 3) rfl ?_); refine bxE 3 #[.int .i64 kd, .string nm, .string tx, .string tt] 55 ?_; intro ga hg_ w1 hbox_ hb_; have H1 := Aside0.mk hb_; have BA1 := Aside0.mk hbox_; have GA1 := Aside0.mk hg_; clear hb_ hbox_ hg_; have BK1 := Aside0.mk (blk_below BK.out H1.out); have HR1 := Aside0.mk (Kd.R_below HR.out H1.out); have hca0 := czA BA1.out 0 (.int .i64 kd); have hca1 := czA BA1.out 1 (.string nm); have hca2 := czA BA1.out 2 (.string tx); have hca3 := czA BA1.out 3 (.string tt)))
 go_at_call 120
 refine (impl_Disk_place.calls gb A c l nm w1 (Kd.R_reads' HR1.out).2.2 BK1.out (by omega)).mono ?_
 rintro e w2 ⟨rfl, hd_⟩
 obtain ⟨nd, hnd⟩ := hd_.out
 have D2 : Aside0 (impl_Disk_do.DS w w2 base gb ga #[.int .i64 kd, .string nm, .string tx, .string tt] (.slice A l.length c) l (fun k => k = gb ∨ some k = (Value.slice A l.length c).ownBlock)) := ⟨⟨by rw [hnd]; exact blk_drewN BK1.out nd, by rw [hnd]; exact blk_drewN BA1.out nd, by rw [hnd]; exact Kd.R_drewN HR1.out nd, by rw [hnd]; exact impl_Disk_put.FrS.ofBelow (pw_below_drewN H1.out nd)⟩⟩
 have HS2 := Aside0.mk (show w.heap.size ≤ w2.heap.size from D2.out.fr.rest.size)
 clear hnd hca0 hca1 hca2 hca3 hd_ HR1 BK1 BA1 H1
 have hca0 := czA D2.out.ba 0 (.int .i64 kd)
 have hca1 := czA D2.out.ba 1 (.string nm)
 have hca2 := czA D2.out.ba 2 (.string tx)
 have hca3 := czA D2.out.ba 3 (.string tt)
 have hcz := czA D2.out.bk 0 (.slice A l.length c)
 rw [hh]
 generalize impl_Disk_place.idx nm l = i
 clear hh
 go_wp2
 go_ret
 exact ⟨rfl, _, D2.out.bk, D2.out.hr, D2.out.fr⟩

set_option maxHeartbeats 4000000 in
set_option maxRecDepth 100000 in
theorem impl_Disk_do.do_no3 (gb base : Nat) (A : Option Addr) (c : Nat) (l : List S45) (kd : Int) (nm tx tt : ByteArray) (w : World) (hR : Kd.R k45 45 w base (fun _ => True) (.slice A l.length c) l) (hb : w.heap[gb]? = some (.cells #[.slice A l.length c] 30 (0, 0))) (hl : l.length ≤ 1099511627775) (hbw : base ≤ w.heap.size) (hk1 : ¬ kd = 1) (hk3 : ¬ kd = 3) (hh : impl_Disk_place.has nm l = true) (htx : tx.toList.isEmpty = true) (htt : tt.toList.isEmpty = false) :
 Calls Try.prog 87 #[.pointer (some ⟨gb, 0, none⟩), .agg #[.int .i64 kd, .string nm, .string tx, .string tt]] w fun e w' => e = .returned (.bool false) ∧ ∃ v', w'.heap[gb]? = some (.cells #[v'] 30 (0, 0)) ∧ Kd.R k45 45 w' base (fun _ => True) v' (l) ∧ impl_Disk_put.FrS w w' (fun k => k = gb ∨ some k = (Value.slice A l.length c).ownBlock) := by
 have HOLD : Aside0 (∀ g, (Value.slice A l.length c).ownBlock = some g → g < w.heap.size) := ⟨fun g hg => by
  obtain ⟨cells, hcells⟩ := Kd.R_typed hR g hg
  exact blk_lt hcells⟩
 have HR := Aside0.mk hR
 have BK := Aside0.mk hb
 have HBW := Aside0.mk hbw
 clear hR hb hbw
 go_enter Try.func87, Try.ntmps87
 go_wp2_with (first | ((with_reducible refine gate_dst (N := 3) rfl ?_); refine bxE 3 #[.int .i64 kd, .string nm, .string tx, .string tt] 55 ?_; intro ga hg_ w1 hbox_ hb_; have H1 := Aside0.mk hb_; have BA1 := Aside0.mk hbox_; have GA1 := Aside0.mk hg_; clear hb_ hbox_ hg_; have BK1 := Aside0.mk (blk_below BK.out H1.out); have HR1 := Aside0.mk (Kd.R_below HR.out H1.out); have hca0 := czA BA1.out 0 (.int .i64 kd); have hca1 := czA BA1.out 1 (.string nm); have hca2 := czA BA1.out 2 (.string tx); have hca3 := czA BA1.out 3 (.string tt)))
 go_at_call 120
 refine (impl_Disk_place.calls gb A c l nm w1 (Kd.R_reads' HR1.out).2.2 BK1.out (by omega)).mono ?_
 rintro e w2 ⟨rfl, hd_⟩
 obtain ⟨nd, hnd⟩ := hd_.out
 have D2 : Aside0 (impl_Disk_do.DS w w2 base gb ga #[.int .i64 kd, .string nm, .string tx, .string tt] (.slice A l.length c) l (fun k => k = gb ∨ some k = (Value.slice A l.length c).ownBlock)) := ⟨⟨by rw [hnd]; exact blk_drewN BK1.out nd, by rw [hnd]; exact blk_drewN BA1.out nd, by rw [hnd]; exact Kd.R_drewN HR1.out nd, by rw [hnd]; exact impl_Disk_put.FrS.ofBelow (pw_below_drewN H1.out nd)⟩⟩
 have HS2 := Aside0.mk (show w.heap.size ≤ w2.heap.size from D2.out.fr.rest.size)
 clear hnd hca0 hca1 hca2 hca3 hd_ HR1 BK1 BA1 H1
 have hca0 := czA D2.out.ba 0 (.int .i64 kd)
 have hca1 := czA D2.out.ba 1 (.string nm)
 have hca2 := czA D2.out.ba 2 (.string tx)
 have hca3 := czA D2.out.ba 3 (.string tt)
 have hcz := czA D2.out.bk 0 (.slice A l.length c)
 rw [hh]
 generalize impl_Disk_place.idx nm l = i
 clear hh
 go_wp2
 go_ret
 exact ⟨rfl, _, D2.out.bk, D2.out.hr, D2.out.fr⟩

set_option maxHeartbeats 4000000 in
set_option maxRecDepth 100000 in
theorem impl_Disk_do.do_other (gb base : Nat) (A : Option Addr) (c : Nat) (l : List S45) (kd : Int) (nm tx tt : ByteArray) (w : World) (hR : Kd.R k45 45 w base (fun _ => True) (.slice A l.length c) l) (hb : w.heap[gb]? = some (.cells #[.slice A l.length c] 30 (0, 0))) (hl : l.length ≤ 1099511627775) (hbw : base ≤ w.heap.size) (hh : impl_Disk_place.has nm l = true) (x0 x1 : ByteArray) (x2 : Int) (hx : (⟨x0, x1, x2⟩ : S45) = l.getD (impl_Disk_place.idx nm l) z45) (hk1 : ¬ kd = 1) (hk2 : ¬ kd = 2) (hk3 : ¬ kd = 3) (hk4 : ¬ kd = 4) (htx : tx.toList.isEmpty = true) (htt : tt.toList.isEmpty = true) :
 Calls Try.prog 87 #[.pointer (some ⟨gb, 0, none⟩), .agg #[.int .i64 kd, .string nm, .string tx, .string tt]] w fun e w' => e = .returned (.bool false) ∧ ∃ v', w'.heap[gb]? = some (.cells #[v'] 30 (0, 0)) ∧ Kd.R k45 45 w' base (fun _ => True) v' (l) ∧ impl_Disk_put.FrS w w' (fun k => k = gb ∨ some k = (Value.slice A l.length c).ownBlock) := by
 have HOLD : Aside0 (∀ g, (Value.slice A l.length c).ownBlock = some g → g < w.heap.size) := ⟨fun g hg => by
  obtain ⟨cells, hcells⟩ := Kd.R_typed hR g hg
  exact blk_lt hcells⟩
 have HR := Aside0.mk hR
 have BK := Aside0.mk hb
 have HBW := Aside0.mk hbw
 clear hR hb hbw
 go_enter Try.func87, Try.ntmps87
 go_wp2_with (first | ((with_reducible refine gate_dst (N := 3) rfl ?_); refine bxE 3 #[.int .i64 kd, .string nm, .string tx, .string tt] 55 ?_; intro ga hg_ w1 hbox_ hb_; have H1 := Aside0.mk hb_; have BA1 := Aside0.mk hbox_; have GA1 := Aside0.mk hg_; clear hb_ hbox_ hg_; have BK1 := Aside0.mk (blk_below BK.out H1.out); have HR1 := Aside0.mk (Kd.R_below HR.out H1.out); have hca0 := czA BA1.out 0 (.int .i64 kd); have hca1 := czA BA1.out 1 (.string nm); have hca2 := czA BA1.out 2 (.string tx); have hca3 := czA BA1.out 3 (.string tt)))
 go_at_call 120
 refine (impl_Disk_place.calls gb A c l nm w1 (Kd.R_reads' HR1.out).2.2 BK1.out (by omega)).mono ?_
 rintro e w2 ⟨rfl, hd_⟩
 obtain ⟨nd, hnd⟩ := hd_.out
 have D2 : Aside0 (impl_Disk_do.DS w w2 base gb ga #[.int .i64 kd, .string nm, .string tx, .string tt] (.slice A l.length c) l (fun k => k = gb ∨ some k = (Value.slice A l.length c).ownBlock)) := ⟨⟨by rw [hnd]; exact blk_drewN BK1.out nd, by rw [hnd]; exact blk_drewN BA1.out nd, by rw [hnd]; exact Kd.R_drewN HR1.out nd, by rw [hnd]; exact impl_Disk_put.FrS.ofBelow (pw_below_drewN H1.out nd)⟩⟩
 have HS2 := Aside0.mk (show w.heap.size ≤ w2.heap.size from D2.out.fr.rest.size)
 clear hnd hca0 hca1 hca2 hca3 hd_ HR1 BK1 BA1 H1
 have hca0 := czA D2.out.ba 0 (.int .i64 kd)
 have hca1 := czA D2.out.ba 1 (.string nm)
 have hca2 := czA D2.out.ba 2 (.string tx)
 have hca3 := czA D2.out.ba 3 (.string tt)
 have hcz := czA D2.out.bk 0 (.slice A l.length c)
 have hil := impl_Disk_do.has_lt hh
 obtain ⟨g, rfl⟩ := impl_Disk_do.row_some D2.out.hr (by omega)
 rw [hh]
 have HX := Aside0.mk hx
 clear hx
 obtain ⟨i, hI⟩ : ∃ i, i = impl_Disk_place.idx nm l := ⟨_, rfl⟩
 rw [← hI] at hil HX ⊢
 have HII := Aside0.mk hI
 clear hh hI
 have hi0 : (0 : Int) ≤ (i : Int) := by omega
 have hi1 : (i : Int) < (l.length : Int) := by omega
 obtain ⟨hce0, hce1, hce2⟩ := impl_Disk_do.DS.elem D2.out hil HX.out
 have hcz := czA D2.out.bk 0 (.slice (some ⟨g, 0, none⟩) l.length c)
 go_wp2_with (first | ((with_reducible refine gate_dst (N := 8) rfl ?_); refine bxE 8 #[.string ⟨#[]⟩, .string ⟨#[]⟩, .int .i64 0] 45 ?_; intro gf hg_ w3 hbox_ hb_; have H3 := Aside0.mk hb_; have BF3 := Aside0.mk hbox_; have GF3 := Aside0.mk hg_; clear hb_ hbox_ hg_; have D3 := Aside0.mk (D2.out.below H3.out); have HN := Aside0.mk (show some gf ≠ (Value.slice (some ⟨g, 0, none⟩) l.length c).ownBlock from fun e => by have h1 := D2.out.old gf e.symm; have h2 := GF3.out; omega); have HGF := Aside0.mk (show w.heap.size ≤ gf by have h1 := HS2.out; have h2 := GF3.out; omega); have hca0 := czA D3.out.ba 0 (.int .i64 kd); have hca1 := czA D3.out.ba 1 (.string nm); have hca2 := czA D3.out.ba 2 (.string tx); have hca3 := czA D3.out.ba 3 (.string tt); have hcz := czA D3.out.bk 0 (.slice (some ⟨g, 0, none⟩) l.length c); have hcf0 := czA BF3.out 0 (.string ⟨#[]⟩); have hcf1 := czA BF3.out 1 (.string ⟨#[]⟩); have hcf2 := czA BF3.out 2 (.int .i64 0)) | (refine store_blk rfl rfl 45 (.tmp 8) (.tmp 77) rfl (g := gf) (off := 0) (e := 45) (cur := #[.string ⟨#[]⟩, .string ⟨#[]⟩, .int .i64 0]) (.agg #[.string x0, .string x1, .int .i64 x2]) [.string x0, .string x1, .int .i64 x2] ?sp ?sx rfl impl_Disk_do.size45 BF3.out (by simp) (fun q hq => by simp at hq; rcases hq with rfl | rfl | rfl <;> rfl) ?_; (case sp => rfl); (case sx => first | rfl | (simp [Act.eval]; done)); intro w4 cur_ h_ hl_ hg_; obtain rfl := impl_Disk_do.cur_eq hl_; have BF4 : Aside0 (w4.heap[gf]? = some (.cells #[.string x0, .string x1, .int .i64 x2] 45 (0, 0))) := ⟨h_⟩; have D4 := Aside0.mk (impl_Disk_do.DS.own D3.out hg_ BF3.out HN.out HGF.out); clear h_ hl_ hg_; obtain ⟨hce0, hce1, hce2⟩ := impl_Disk_do.DS.elem D4.out hil HX.out; have hca0 := czA D4.out.ba 0 (.int .i64 kd); have hca1 := czA D4.out.ba 1 (.string nm); have hca2 := czA D4.out.ba 2 (.string tx); have hca3 := czA D4.out.ba 3 (.string tt); have hcz := czA D4.out.bk 0 (.slice (some ⟨g, 0, none⟩) l.length c); have hcf0 := czA BF4.out 0 (.string x0); have hcf1 := czA BF4.out 1 (.string x1); have hcf2 := czA BF4.out 2 (.int .i64 x2)))
 try go_wp2
 go_ret
 exact ⟨rfl, _, D4.out.bk, D4.out.hr, D4.out.fr⟩

set_option maxHeartbeats 4000000 in
set_option maxRecDepth 100000 in
theorem impl_Disk_do.do_keep (gb base : Nat) (A : Option Addr) (c : Nat) (l : List S45) (nm tx tt : ByteArray) (w : World) (hR : Kd.R k45 45 w base (fun _ => True) (.slice A l.length c) l) (hb : w.heap[gb]? = some (.cells #[.slice A l.length c] 30 (0, 0))) (hl : l.length ≤ 1099511627775) (hbw : base ≤ w.heap.size) (hh : impl_Disk_place.has nm l = true) (x0 x1 : ByteArray) (x2 : Int) (hx : (⟨x0, x1, x2⟩ : S45) = l.getD (impl_Disk_place.idx nm l) z45) (htx : tx.toList.isEmpty = true) (htt : tt.toList.isEmpty = true) :
 Calls Try.prog 87 #[.pointer (some ⟨gb, 0, none⟩), .agg #[.int .i64 2, .string nm, .string tx, .string tt]] w fun e w' => e = .returned (.bool true) ∧ ∃ v', w'.heap[gb]? = some (.cells #[v'] 30 (0, 0)) ∧ Kd.R k45 45 w' base (fun _ => True) v' (l.set (impl_Disk_place.idx nm l) ⟨x0, x1, (x1.size : Int)⟩) ∧ impl_Disk_put.FrS w w' (fun k => k = gb ∨ some k = (Value.slice A l.length c).ownBlock) := by
 have HOLD : Aside0 (∀ g, (Value.slice A l.length c).ownBlock = some g → g < w.heap.size) := ⟨fun g hg => by
  obtain ⟨cells, hcells⟩ := Kd.R_typed hR g hg
  exact blk_lt hcells⟩
 have HR := Aside0.mk hR
 have BK := Aside0.mk hb
 have HBW := Aside0.mk hbw
 clear hR hb hbw
 go_enter Try.func87, Try.ntmps87
 go_wp2_with (first | ((with_reducible refine gate_dst (N := 3) rfl ?_); refine bxE 3 #[.int .i64 2, .string nm, .string tx, .string tt] 55 ?_; intro ga hg_ w1 hbox_ hb_; have H1 := Aside0.mk hb_; have BA1 := Aside0.mk hbox_; have GA1 := Aside0.mk hg_; clear hb_ hbox_ hg_; have BK1 := Aside0.mk (blk_below BK.out H1.out); have HR1 := Aside0.mk (Kd.R_below HR.out H1.out); have hca0 := czA BA1.out 0 (.int .i64 2); have hca1 := czA BA1.out 1 (.string nm); have hca2 := czA BA1.out 2 (.string tx); have hca3 := czA BA1.out 3 (.string tt)))
 go_at_call 120
 refine (impl_Disk_place.calls gb A c l nm w1 (Kd.R_reads' HR1.out).2.2 BK1.out (by omega)).mono ?_
 rintro e w2 ⟨rfl, hd_⟩
 obtain ⟨nd, hnd⟩ := hd_.out
 have D2 : Aside0 (impl_Disk_do.DS w w2 base gb ga #[.int .i64 2, .string nm, .string tx, .string tt] (.slice A l.length c) l (fun k => k = gb ∨ some k = (Value.slice A l.length c).ownBlock)) := ⟨⟨by rw [hnd]; exact blk_drewN BK1.out nd, by rw [hnd]; exact blk_drewN BA1.out nd, by rw [hnd]; exact Kd.R_drewN HR1.out nd, by rw [hnd]; exact impl_Disk_put.FrS.ofBelow (pw_below_drewN H1.out nd)⟩⟩
 have HS2 := Aside0.mk (show w.heap.size ≤ w2.heap.size from D2.out.fr.rest.size)
 clear hnd hca0 hca1 hca2 hca3 hd_ HR1 BK1 BA1 H1
 have hca0 := czA D2.out.ba 0 (.int .i64 2)
 have hca1 := czA D2.out.ba 1 (.string nm)
 have hca2 := czA D2.out.ba 2 (.string tx)
 have hca3 := czA D2.out.ba 3 (.string tt)
 have hcz := czA D2.out.bk 0 (.slice A l.length c)
 have hil := impl_Disk_do.has_lt hh
 obtain ⟨g, rfl⟩ := impl_Disk_do.row_some D2.out.hr (by omega)
 rw [hh]
 have HX := Aside0.mk hx
 clear hx
 obtain ⟨i, hI⟩ : ∃ i, i = impl_Disk_place.idx nm l := ⟨_, rfl⟩
 rw [← hI] at hil HX ⊢
 have HII := Aside0.mk hI
 clear hh hI
 have hi0 : (0 : Int) ≤ (i : Int) := by omega
 have hi1 : (i : Int) < (l.length : Int) := by omega
 obtain ⟨hce0, hce1, hce2⟩ := impl_Disk_do.DS.elem D2.out hil HX.out
 have hcz := czA D2.out.bk 0 (.slice (some ⟨g, 0, none⟩) l.length c)
 go_wp2_with (first | ((with_reducible refine gate_dst (N := 8) rfl ?_); refine bxE 8 #[.string ⟨#[]⟩, .string ⟨#[]⟩, .int .i64 0] 45 ?_; intro gf hg_ w3 hbox_ hb_; have H3 := Aside0.mk hb_; have BF3 := Aside0.mk hbox_; have GF3 := Aside0.mk hg_; clear hb_ hbox_ hg_; have D3 := Aside0.mk (D2.out.below H3.out); have HN := Aside0.mk (show some gf ≠ (Value.slice (some ⟨g, 0, none⟩) l.length c).ownBlock from fun e => by have h1 := D2.out.old gf e.symm; have h2 := GF3.out; omega); have HGF := Aside0.mk (show w.heap.size ≤ gf by have h1 := HS2.out; have h2 := GF3.out; omega); have hca0 := czA D3.out.ba 0 (.int .i64 2); have hca1 := czA D3.out.ba 1 (.string nm); have hca2 := czA D3.out.ba 2 (.string tx); have hca3 := czA D3.out.ba 3 (.string tt); have hcz := czA D3.out.bk 0 (.slice (some ⟨g, 0, none⟩) l.length c); have hcf0 := czA BF3.out 0 (.string ⟨#[]⟩); have hcf1 := czA BF3.out 1 (.string ⟨#[]⟩); have hcf2 := czA BF3.out 2 (.int .i64 0)) | (refine store_blk rfl rfl 45 (.tmp 8) (.tmp 77) rfl (g := gf) (off := 0) (e := 45) (cur := #[.string ⟨#[]⟩, .string ⟨#[]⟩, .int .i64 0]) (.agg #[.string x0, .string x1, .int .i64 x2]) [.string x0, .string x1, .int .i64 x2] ?sp ?sx rfl impl_Disk_do.size45 BF3.out (by simp) (fun q hq => by simp at hq; rcases hq with rfl | rfl | rfl <;> rfl) ?_; (case sp => rfl); (case sx => first | rfl | (simp [Act.eval]; done)); intro w4 cur_ h_ hl_ hg_; obtain rfl := impl_Disk_do.cur_eq hl_; have BF4 : Aside0 (w4.heap[gf]? = some (.cells #[.string x0, .string x1, .int .i64 x2] 45 (0, 0))) := ⟨h_⟩; have D4 := Aside0.mk (impl_Disk_do.DS.own D3.out hg_ BF3.out HN.out HGF.out); clear h_ hl_ hg_; obtain ⟨hce0, hce1, hce2⟩ := impl_Disk_do.DS.elem D4.out hil HX.out; have hca0 := czA D4.out.ba 0 (.int .i64 2); have hca1 := czA D4.out.ba 1 (.string nm); have hca2 := czA D4.out.ba 2 (.string tx); have hca3 := czA D4.out.ba 3 (.string tt); have hcz := czA D4.out.bk 0 (.slice (some ⟨g, 0, none⟩) l.length c); have hcf0 := czA BF4.out 0 (.string x0); have hcf1 := czA BF4.out 1 (.string x1); have hcf2 := czA BF4.out 2 (.int .i64 x2)))
 try go_wp2
 have hfe2 := D4.out.frz (i * 3 + 2)
 go_still_tail 10, (by kernel_rfl)
 have D5 := Aside0.mk (impl_Disk_do.DS.keep D4.out hil HX.out (Or.inr (by simp [Value.ownBlock])) (x1.size : Int)).drew
 go_wp2
 go_ret
 exact ⟨rfl, _, D5.out.bk, by rw [← HII.out]; exact D5.out.hr, D5.out.fr⟩

set_option maxHeartbeats 4000000 in
set_option maxRecDepth 100000 in
theorem impl_Disk_do.do_drop (gb base : Nat) (A : Option Addr) (c : Nat) (l : List S45) (nm tx tt : ByteArray) (w : World) (hR : Kd.R k45 45 w base (fun _ => True) (.slice A l.length c) l) (hb : w.heap[gb]? = some (.cells #[.slice A l.length c] 30 (0, 0))) (hl : l.length ≤ 1099511627775) (hbw : base ≤ w.heap.size) (hh : impl_Disk_place.has nm l = true) (x0 x1 : ByteArray) (x2 : Int) (hx : (⟨x0, x1, x2⟩ : S45) = l.getD (impl_Disk_place.idx nm l) z45) (htx : tx.toList.isEmpty = true) (htt : tt.toList.isEmpty = true) :
 Calls Try.prog 87 #[.pointer (some ⟨gb, 0, none⟩), .agg #[.int .i64 4, .string nm, .string tx, .string tt]] w fun e w' => e = .returned (.bool true) ∧ ∃ v', w'.heap[gb]? = some (.cells #[v'] 30 (0, 0)) ∧ Kd.R k45 45 w' base (fun _ => True) v' (l.eraseIdx (impl_Disk_place.idx nm l)) ∧ impl_Disk_put.FrS w w' (fun k => k = gb ∨ some k = (Value.slice A l.length c).ownBlock) := by
 have HOLD : Aside0 (∀ g, (Value.slice A l.length c).ownBlock = some g → g < w.heap.size) := ⟨fun g hg => by
  obtain ⟨cells, hcells⟩ := Kd.R_typed hR g hg
  exact blk_lt hcells⟩
 have HR := Aside0.mk hR
 have BK := Aside0.mk hb
 have HBW := Aside0.mk hbw
 clear hR hb hbw
 go_enter Try.func87, Try.ntmps87
 go_wp2_with (first | ((with_reducible refine gate_dst (N := 3) rfl ?_); refine bxE 3 #[.int .i64 4, .string nm, .string tx, .string tt] 55 ?_; intro ga hg_ w1 hbox_ hb_; have H1 := Aside0.mk hb_; have BA1 := Aside0.mk hbox_; have GA1 := Aside0.mk hg_; clear hb_ hbox_ hg_; have BK1 := Aside0.mk (blk_below BK.out H1.out); have HR1 := Aside0.mk (Kd.R_below HR.out H1.out); have hca0 := czA BA1.out 0 (.int .i64 4); have hca1 := czA BA1.out 1 (.string nm); have hca2 := czA BA1.out 2 (.string tx); have hca3 := czA BA1.out 3 (.string tt)))
 go_at_call 120
 refine (impl_Disk_place.calls gb A c l nm w1 (Kd.R_reads' HR1.out).2.2 BK1.out (by omega)).mono ?_
 rintro e w2 ⟨rfl, hd_⟩
 obtain ⟨nd, hnd⟩ := hd_.out
 have D2 : Aside0 (impl_Disk_do.DS w w2 base gb ga #[.int .i64 4, .string nm, .string tx, .string tt] (.slice A l.length c) l (fun k => k = gb ∨ some k = (Value.slice A l.length c).ownBlock)) := ⟨⟨by rw [hnd]; exact blk_drewN BK1.out nd, by rw [hnd]; exact blk_drewN BA1.out nd, by rw [hnd]; exact Kd.R_drewN HR1.out nd, by rw [hnd]; exact impl_Disk_put.FrS.ofBelow (pw_below_drewN H1.out nd)⟩⟩
 have HS2 := Aside0.mk (show w.heap.size ≤ w2.heap.size from D2.out.fr.rest.size)
 clear hnd hca0 hca1 hca2 hca3 hd_ HR1 BK1 BA1 H1
 have hca0 := czA D2.out.ba 0 (.int .i64 4)
 have hca1 := czA D2.out.ba 1 (.string nm)
 have hca2 := czA D2.out.ba 2 (.string tx)
 have hca3 := czA D2.out.ba 3 (.string tt)
 have hcz := czA D2.out.bk 0 (.slice A l.length c)
 have hil := impl_Disk_do.has_lt hh
 obtain ⟨g, rfl⟩ := impl_Disk_do.row_some D2.out.hr (by omega)
 rw [hh]
 have HX := Aside0.mk hx
 clear hx
 obtain ⟨i, hI⟩ : ∃ i, i = impl_Disk_place.idx nm l := ⟨_, rfl⟩
 rw [← hI] at hil HX ⊢
 have HII := Aside0.mk hI
 clear hh hI
 have hi0 : (0 : Int) ≤ (i : Int) := by omega
 have hi1 : (i : Int) < (l.length : Int) := by omega
 have hw1 : wrap64 ((i : Int) + 1) = (i : Int) + 1 := by unfold wrap64; omega
 have hw2 : IntKind.i64.wrap ((i : Int) + 1) = (i : Int) + 1 := by rw [IntKind.wrap_i64]; omega
 obtain ⟨hce0, hce1, hce2⟩ := impl_Disk_do.DS.elem D2.out hil HX.out
 have hcz := czA D2.out.bk 0 (.slice (some ⟨g, 0, none⟩) l.length c)
 go_wp2_with (first | ((with_reducible refine gate_dst (N := 8) rfl ?_); refine bxE 8 #[.string ⟨#[]⟩, .string ⟨#[]⟩, .int .i64 0] 45 ?_; intro gf hg_ w3 hbox_ hb_; have H3 := Aside0.mk hb_; have BF3 := Aside0.mk hbox_; have GF3 := Aside0.mk hg_; clear hb_ hbox_ hg_; have D3 := Aside0.mk (D2.out.below H3.out); have HN := Aside0.mk (show some gf ≠ (Value.slice (some ⟨g, 0, none⟩) l.length c).ownBlock from fun e => by have h1 := D2.out.old gf e.symm; have h2 := GF3.out; omega); have HGF := Aside0.mk (show w.heap.size ≤ gf by have h1 := HS2.out; have h2 := GF3.out; omega); have hca0 := czA D3.out.ba 0 (.int .i64 4); have hca1 := czA D3.out.ba 1 (.string nm); have hca2 := czA D3.out.ba 2 (.string tx); have hca3 := czA D3.out.ba 3 (.string tt); have hcz := czA D3.out.bk 0 (.slice (some ⟨g, 0, none⟩) l.length c); have hcf0 := czA BF3.out 0 (.string ⟨#[]⟩); have hcf1 := czA BF3.out 1 (.string ⟨#[]⟩); have hcf2 := czA BF3.out 2 (.int .i64 0)) | (refine store_blk rfl rfl 45 (.tmp 8) (.tmp 77) rfl (g := gf) (off := 0) (e := 45) (cur := #[.string ⟨#[]⟩, .string ⟨#[]⟩, .int .i64 0]) (.agg #[.string x0, .string x1, .int .i64 x2]) [.string x0, .string x1, .int .i64 x2] ?sp ?sx rfl impl_Disk_do.size45 BF3.out (by simp) (fun q hq => by simp at hq; rcases hq with rfl | rfl | rfl <;> rfl) ?_; (case sp => rfl); (case sx => first | rfl | (simp [Act.eval]; done)); intro w4 cur_ h_ hl_ hg_; obtain rfl := impl_Disk_do.cur_eq hl_; have BF4 : Aside0 (w4.heap[gf]? = some (.cells #[.string x0, .string x1, .int .i64 x2] 45 (0, 0))) := ⟨h_⟩; have D4 := Aside0.mk (impl_Disk_do.DS.own D3.out hg_ BF3.out HN.out HGF.out); clear h_ hl_ hg_; obtain ⟨hce0, hce1, hce2⟩ := impl_Disk_do.DS.elem D4.out hil HX.out; have hca0 := czA D4.out.ba 0 (.int .i64 4); have hca1 := czA D4.out.ba 1 (.string nm); have hca2 := czA D4.out.ba 2 (.string tx); have hca3 := czA D4.out.ba 3 (.string tt); have hcz := czA D4.out.bk 0 (.slice (some ⟨g, 0, none⟩) l.length c); have hcf0 := czA BF4.out 0 (.string x0); have hcf1 := czA BF4.out 1 (.string x1); have hcf2 := czA BF4.out 2 (.int .i64 x2)))
 have hl2 : l.length ≤ 1099511627776 := Nat.le_trans hl (by decide)
 have hb2 : base ≤ w4.heap.size := Nat.le_trans HBW.out D4.out.fr.rest.size
 have hdel := impl_File_122.calls g l.length c i base l w4 D4.out.hr hil hl2 hb2
 rw [show ((i + 1 : Nat) : Int) = (i : Int) + 1 by omega] at hdel
 go_at_call 122
 refine hdel.mono ?_
 clear hdel
 rintro e w5 ⟨c5, rfl, hr5, hg5⟩
 have hlen5 : l.length - 1 = (l.eraseIdx i).length := by rw [List.length_eraseIdx, if_pos hil]
 rw [hlen5] at hr5 ⊢
 obtain ⟨hb5, ha5, hf5⟩ := impl_Disk_do.DS.grow D4.out (by simpa [Value.ownBlock] using hg5) hr5 (fun k hk => Or.inr hk.symm)
 have BF5 := Aside0.mk (impl_Disk_do.gkeep hg5 BF4.out (fun e => HN.out (by simpa [Value.ownBlock] using e)))
 have HB5 := Aside0.mk hb5
 have HA5 := Aside0.mk ha5
 have HF5 := Aside0.mk hf5
 have HR5 := Aside0.mk hr5
 have HNE := Aside0.mk (show gf ≠ gb from fun e => by
  subst e
  have h1 := BF5.out.symm.trans hb5
  simp at h1)
 have hcz5 := czA hb5 0 (.slice (some ⟨g, 0, none⟩) l.length c)
 have hfz5 := blk_frozen hb5 0
 obtain ⟨n5, hn5⟩ : ∃ n5, n5 = (l.eraseIdx i).length := ⟨_, rfl⟩
 rw [← hn5] at HR5 ⊢
 have HN5 := Aside0.mk hn5
 clear hb5 ha5 hf5 hr5 hg5 hlen5 hn5
 go_wp2_with (first | (refine store_blk rfl rfl 28 (.tmp 104) (.tmp 102) rfl (g := gb) (off := 0) (e := 30) (cur := #[.slice (some ⟨g, 0, none⟩) l.length c]) (.slice (some ⟨g, 0, none⟩) n5 c5) [.slice (some ⟨g, 0, none⟩) n5 c5] ?sp ?sx rfl impl_Disk_do.size28 HB5.out (by simp) (fun q hq => by simp at hq; subst hq; rfl) ?_; (case sp => rfl); (case sx => first | rfl | (simp [Act.eval]; done)); intro w6 cur_ h_ hl_ hg_; obtain rfl := impl_Disk_do.cur_eq hl_; have D6 := Aside0.mk (impl_Disk_do.DS.lay3 HB5.out HA5.out HF5.out HR5.out hg_ h_ (Or.inl rfl)); have BF6 := Aside0.mk (impl_Disk_do.gkeep hg_ BF5.out HNE.out); clear h_ hl_ hg_; have hca0 := czA D6.out.ba 0 (.int .i64 4); have hca1 := czA D6.out.ba 1 (.string nm); have hca2 := czA D6.out.ba 2 (.string tx); have hca3 := czA D6.out.ba 3 (.string tt); have hcz := czA D6.out.bk 0 (.slice (some ⟨g, 0, none⟩) n5 c5); have hcf0 := czA BF6.out 0 (.string x0); have hcf1 := czA BF6.out 1 (.string x1); have hcf2 := czA BF6.out 2 (.int .i64 x2)))
 go_ret
 exact ⟨rfl, _, D6.out.bk, by rw [← HII.out]; exact D6.out.hr, D6.out.fr⟩

set_option maxHeartbeats 4000000 in
set_option maxRecDepth 100000 in
theorem impl_Disk_do.do_mv_same (gb base : Nat) (A : Option Addr) (c : Nat) (l : List S45) (nm tx tt : ByteArray) (w : World) (hR : Kd.R k45 45 w base (fun _ => True) (.slice A l.length c) l) (hb : w.heap[gb]? = some (.cells #[.slice A l.length c] 30 (0, 0))) (hl : l.length ≤ 1099511627775) (hbw : base ≤ w.heap.size) (hh : impl_Disk_place.has nm l = true) (x0 x1 : ByteArray) (x2 : Int) (hx : (⟨x0, x1, x2⟩ : S45) = l.getD (impl_Disk_place.idx nm l) z45) (htx : tx.toList.isEmpty = true) (hsame : (tt.toList == nm.toList) = true) :
 Calls Try.prog 87 #[.pointer (some ⟨gb, 0, none⟩), .agg #[.int .i64 3, .string nm, .string tx, .string tt]] w fun e w' => e = .returned (.bool false) ∧ ∃ v', w'.heap[gb]? = some (.cells #[v'] 30 (0, 0)) ∧ Kd.R k45 45 w' base (fun _ => True) v' (l) ∧ impl_Disk_put.FrS w w' (fun k => k = gb ∨ some k = (Value.slice A l.length c).ownBlock) := by
 have HOLD : Aside0 (∀ g, (Value.slice A l.length c).ownBlock = some g → g < w.heap.size) := ⟨fun g hg => by
  obtain ⟨cells, hcells⟩ := Kd.R_typed hR g hg
  exact blk_lt hcells⟩
 have HR := Aside0.mk hR
 have BK := Aside0.mk hb
 have HBW := Aside0.mk hbw
 clear hR hb hbw
 go_enter Try.func87, Try.ntmps87
 go_wp2_with (first | ((with_reducible refine gate_dst (N := 3) rfl ?_); refine bxE 3 #[.int .i64 3, .string nm, .string tx, .string tt] 55 ?_; intro ga hg_ w1 hbox_ hb_; have H1 := Aside0.mk hb_; have BA1 := Aside0.mk hbox_; have GA1 := Aside0.mk hg_; clear hb_ hbox_ hg_; have BK1 := Aside0.mk (blk_below BK.out H1.out); have HR1 := Aside0.mk (Kd.R_below HR.out H1.out); have hca0 := czA BA1.out 0 (.int .i64 3); have hca1 := czA BA1.out 1 (.string nm); have hca2 := czA BA1.out 2 (.string tx); have hca3 := czA BA1.out 3 (.string tt)))
 go_at_call 120
 refine (impl_Disk_place.calls gb A c l nm w1 (Kd.R_reads' HR1.out).2.2 BK1.out (by omega)).mono ?_
 rintro e w2 ⟨rfl, hd_⟩
 obtain ⟨nd, hnd⟩ := hd_.out
 have D2 : Aside0 (impl_Disk_do.DS w w2 base gb ga #[.int .i64 3, .string nm, .string tx, .string tt] (.slice A l.length c) l (fun k => k = gb ∨ some k = (Value.slice A l.length c).ownBlock)) := ⟨⟨by rw [hnd]; exact blk_drewN BK1.out nd, by rw [hnd]; exact blk_drewN BA1.out nd, by rw [hnd]; exact Kd.R_drewN HR1.out nd, by rw [hnd]; exact impl_Disk_put.FrS.ofBelow (pw_below_drewN H1.out nd)⟩⟩
 have HS2 := Aside0.mk (show w.heap.size ≤ w2.heap.size from D2.out.fr.rest.size)
 clear hnd hca0 hca1 hca2 hca3 hd_ HR1 BK1 BA1 H1
 have hca0 := czA D2.out.ba 0 (.int .i64 3)
 have hca1 := czA D2.out.ba 1 (.string nm)
 have hca2 := czA D2.out.ba 2 (.string tx)
 have hca3 := czA D2.out.ba 3 (.string tt)
 have hcz := czA D2.out.bk 0 (.slice A l.length c)
 have hil := impl_Disk_do.has_lt hh
 obtain ⟨g, rfl⟩ := impl_Disk_do.row_some D2.out.hr (by omega)
 rw [hh]
 have HX := Aside0.mk hx
 clear hx
 obtain ⟨i, hI⟩ : ∃ i, i = impl_Disk_place.idx nm l := ⟨_, rfl⟩
 rw [← hI] at hil HX ⊢
 have HII := Aside0.mk hI
 clear hh hI
 have hi0 : (0 : Int) ≤ (i : Int) := by omega
 have hi1 : (i : Int) < (l.length : Int) := by omega
 obtain ⟨hce0, hce1, hce2⟩ := impl_Disk_do.DS.elem D2.out hil HX.out
 have hcz := czA D2.out.bk 0 (.slice (some ⟨g, 0, none⟩) l.length c)
 go_wp2_with (first | ((with_reducible refine gate_dst (N := 8) rfl ?_); refine bxE 8 #[.string ⟨#[]⟩, .string ⟨#[]⟩, .int .i64 0] 45 ?_; intro gf hg_ w3 hbox_ hb_; have H3 := Aside0.mk hb_; have BF3 := Aside0.mk hbox_; have GF3 := Aside0.mk hg_; clear hb_ hbox_ hg_; have D3 := Aside0.mk (D2.out.below H3.out); have HN := Aside0.mk (show some gf ≠ (Value.slice (some ⟨g, 0, none⟩) l.length c).ownBlock from fun e => by have h1 := D2.out.old gf e.symm; have h2 := GF3.out; omega); have HGF := Aside0.mk (show w.heap.size ≤ gf by have h1 := HS2.out; have h2 := GF3.out; omega); have hca0 := czA D3.out.ba 0 (.int .i64 3); have hca1 := czA D3.out.ba 1 (.string nm); have hca2 := czA D3.out.ba 2 (.string tx); have hca3 := czA D3.out.ba 3 (.string tt); have hcz := czA D3.out.bk 0 (.slice (some ⟨g, 0, none⟩) l.length c); have hcf0 := czA BF3.out 0 (.string ⟨#[]⟩); have hcf1 := czA BF3.out 1 (.string ⟨#[]⟩); have hcf2 := czA BF3.out 2 (.int .i64 0)) | (refine store_blk rfl rfl 45 (.tmp 8) (.tmp 77) rfl (g := gf) (off := 0) (e := 45) (cur := #[.string ⟨#[]⟩, .string ⟨#[]⟩, .int .i64 0]) (.agg #[.string x0, .string x1, .int .i64 x2]) [.string x0, .string x1, .int .i64 x2] ?sp ?sx rfl impl_Disk_do.size45 BF3.out (by simp) (fun q hq => by simp at hq; rcases hq with rfl | rfl | rfl <;> rfl) ?_; (case sp => rfl); (case sx => first | rfl | (simp [Act.eval]; done)); intro w4 cur_ h_ hl_ hg_; obtain rfl := impl_Disk_do.cur_eq hl_; have BF4 : Aside0 (w4.heap[gf]? = some (.cells #[.string x0, .string x1, .int .i64 x2] 45 (0, 0))) := ⟨h_⟩; have D4 := Aside0.mk (impl_Disk_do.DS.own D3.out hg_ BF3.out HN.out HGF.out); clear h_ hl_ hg_; obtain ⟨hce0, hce1, hce2⟩ := impl_Disk_do.DS.elem D4.out hil HX.out; have hca0 := czA D4.out.ba 0 (.int .i64 3); have hca1 := czA D4.out.ba 1 (.string nm); have hca2 := czA D4.out.ba 2 (.string tx); have hca3 := czA D4.out.ba 3 (.string tt); have hcz := czA D4.out.bk 0 (.slice (some ⟨g, 0, none⟩) l.length c); have hcf0 := czA BF4.out 0 (.string x0); have hcf1 := czA BF4.out 1 (.string x1); have hcf2 := czA BF4.out 2 (.int .i64 x2)))
 try go_wp2
 go_ret
 exact ⟨rfl, _, D4.out.bk, D4.out.hr, D4.out.fr⟩

set_option maxHeartbeats 4000000 in
set_option maxRecDepth 100000 in
theorem impl_Disk_do.do_mv_less (gb base : Nat) (A : Option Addr) (c : Nat) (l : List S45) (nm tx tt : ByteArray) (w : World) (hR : Kd.R k45 45 w base (fun _ => True) (.slice A l.length c) l) (hb : w.heap[gb]? = some (.cells #[.slice A l.length c] 30 (0, 0))) (hl : l.length ≤ 1099511627775) (hbw : base ≤ w.heap.size) (hh : impl_Disk_place.has nm l = true) (x0 x1 : ByteArray) (x2 : Int) (hx : (⟨x0, x1, x2⟩ : S45) = l.getD (impl_Disk_place.idx nm l) z45) (htx : tx.toList.isEmpty = true) (hsame : (tt.toList == nm.toList) = false) (hless : x2 < (x1.size : Int)) :
 Calls Try.prog 87 #[.pointer (some ⟨gb, 0, none⟩), .agg #[.int .i64 3, .string nm, .string tx, .string tt]] w fun e w' => e = .returned (.bool false) ∧ ∃ v', w'.heap[gb]? = some (.cells #[v'] 30 (0, 0)) ∧ Kd.R k45 45 w' base (fun _ => True) v' (l) ∧ impl_Disk_put.FrS w w' (fun k => k = gb ∨ some k = (Value.slice A l.length c).ownBlock) := by
 have HOLD : Aside0 (∀ g, (Value.slice A l.length c).ownBlock = some g → g < w.heap.size) := ⟨fun g hg => by
  obtain ⟨cells, hcells⟩ := Kd.R_typed hR g hg
  exact blk_lt hcells⟩
 have HR := Aside0.mk hR
 have BK := Aside0.mk hb
 have HBW := Aside0.mk hbw
 clear hR hb hbw
 go_enter Try.func87, Try.ntmps87
 go_wp2_with (first | ((with_reducible refine gate_dst (N := 3) rfl ?_); refine bxE 3 #[.int .i64 3, .string nm, .string tx, .string tt] 55 ?_; intro ga hg_ w1 hbox_ hb_; have H1 := Aside0.mk hb_; have BA1 := Aside0.mk hbox_; have GA1 := Aside0.mk hg_; clear hb_ hbox_ hg_; have BK1 := Aside0.mk (blk_below BK.out H1.out); have HR1 := Aside0.mk (Kd.R_below HR.out H1.out); have hca0 := czA BA1.out 0 (.int .i64 3); have hca1 := czA BA1.out 1 (.string nm); have hca2 := czA BA1.out 2 (.string tx); have hca3 := czA BA1.out 3 (.string tt)))
 go_at_call 120
 refine (impl_Disk_place.calls gb A c l nm w1 (Kd.R_reads' HR1.out).2.2 BK1.out (by omega)).mono ?_
 rintro e w2 ⟨rfl, hd_⟩
 obtain ⟨nd, hnd⟩ := hd_.out
 have D2 : Aside0 (impl_Disk_do.DS w w2 base gb ga #[.int .i64 3, .string nm, .string tx, .string tt] (.slice A l.length c) l (fun k => k = gb ∨ some k = (Value.slice A l.length c).ownBlock)) := ⟨⟨by rw [hnd]; exact blk_drewN BK1.out nd, by rw [hnd]; exact blk_drewN BA1.out nd, by rw [hnd]; exact Kd.R_drewN HR1.out nd, by rw [hnd]; exact impl_Disk_put.FrS.ofBelow (pw_below_drewN H1.out nd)⟩⟩
 have HS2 := Aside0.mk (show w.heap.size ≤ w2.heap.size from D2.out.fr.rest.size)
 clear hnd hca0 hca1 hca2 hca3 hd_ HR1 BK1 BA1 H1
 have hca0 := czA D2.out.ba 0 (.int .i64 3)
 have hca1 := czA D2.out.ba 1 (.string nm)
 have hca2 := czA D2.out.ba 2 (.string tx)
 have hca3 := czA D2.out.ba 3 (.string tt)
 have hcz := czA D2.out.bk 0 (.slice A l.length c)
 have hil := impl_Disk_do.has_lt hh
 obtain ⟨g, rfl⟩ := impl_Disk_do.row_some D2.out.hr (by omega)
 rw [hh]
 have HX := Aside0.mk hx
 clear hx
 obtain ⟨i, hI⟩ : ∃ i, i = impl_Disk_place.idx nm l := ⟨_, rfl⟩
 rw [← hI] at hil HX ⊢
 have HII := Aside0.mk hI
 clear hh hI
 have hi0 : (0 : Int) ≤ (i : Int) := by omega
 have hi1 : (i : Int) < (l.length : Int) := by omega
 obtain ⟨hce0, hce1, hce2⟩ := impl_Disk_do.DS.elem D2.out hil HX.out
 have hcz := czA D2.out.bk 0 (.slice (some ⟨g, 0, none⟩) l.length c)
 go_wp2_with (first | ((with_reducible refine gate_dst (N := 8) rfl ?_); refine bxE 8 #[.string ⟨#[]⟩, .string ⟨#[]⟩, .int .i64 0] 45 ?_; intro gf hg_ w3 hbox_ hb_; have H3 := Aside0.mk hb_; have BF3 := Aside0.mk hbox_; have GF3 := Aside0.mk hg_; clear hb_ hbox_ hg_; have D3 := Aside0.mk (D2.out.below H3.out); have HN := Aside0.mk (show some gf ≠ (Value.slice (some ⟨g, 0, none⟩) l.length c).ownBlock from fun e => by have h1 := D2.out.old gf e.symm; have h2 := GF3.out; omega); have HGF := Aside0.mk (show w.heap.size ≤ gf by have h1 := HS2.out; have h2 := GF3.out; omega); have hca0 := czA D3.out.ba 0 (.int .i64 3); have hca1 := czA D3.out.ba 1 (.string nm); have hca2 := czA D3.out.ba 2 (.string tx); have hca3 := czA D3.out.ba 3 (.string tt); have hcz := czA D3.out.bk 0 (.slice (some ⟨g, 0, none⟩) l.length c); have hcf0 := czA BF3.out 0 (.string ⟨#[]⟩); have hcf1 := czA BF3.out 1 (.string ⟨#[]⟩); have hcf2 := czA BF3.out 2 (.int .i64 0)) | (refine store_blk rfl rfl 45 (.tmp 8) (.tmp 77) rfl (g := gf) (off := 0) (e := 45) (cur := #[.string ⟨#[]⟩, .string ⟨#[]⟩, .int .i64 0]) (.agg #[.string x0, .string x1, .int .i64 x2]) [.string x0, .string x1, .int .i64 x2] ?sp ?sx rfl impl_Disk_do.size45 BF3.out (by simp) (fun q hq => by simp at hq; rcases hq with rfl | rfl | rfl <;> rfl) ?_; (case sp => rfl); (case sx => first | rfl | (simp [Act.eval]; done)); intro w4 cur_ h_ hl_ hg_; obtain rfl := impl_Disk_do.cur_eq hl_; have BF4 : Aside0 (w4.heap[gf]? = some (.cells #[.string x0, .string x1, .int .i64 x2] 45 (0, 0))) := ⟨h_⟩; have D4 := Aside0.mk (impl_Disk_do.DS.own D3.out hg_ BF3.out HN.out HGF.out); clear h_ hl_ hg_; obtain ⟨hce0, hce1, hce2⟩ := impl_Disk_do.DS.elem D4.out hil HX.out; have hca0 := czA D4.out.ba 0 (.int .i64 3); have hca1 := czA D4.out.ba 1 (.string nm); have hca2 := czA D4.out.ba 2 (.string tx); have hca3 := czA D4.out.ba 3 (.string tt); have hcz := czA D4.out.bk 0 (.slice (some ⟨g, 0, none⟩) l.length c); have hcf0 := czA BF4.out 0 (.string x0); have hcf1 := czA BF4.out 1 (.string x1); have hcf2 := czA BF4.out 2 (.int .i64 x2)))
 try go_wp2
 go_ret
 exact ⟨rfl, _, D4.out.bk, D4.out.hr, D4.out.fr⟩

set_option maxHeartbeats 4000000 in
set_option maxRecDepth 100000 in
theorem impl_Disk_do.do_mv (gb base : Nat) (A : Option Addr) (c : Nat) (l : List S45) (nm tx tt : ByteArray) (w : World) (hR : Kd.R k45 45 w base (fun _ => True) (.slice A l.length c) l) (hb : w.heap[gb]? = some (.cells #[.slice A l.length c] 30 (0, 0))) (hl : l.length ≤ 1099511627775) (hbw : base ≤ w.heap.size) (hh : impl_Disk_place.has nm l = true) (x0 x1 : ByteArray) (x2 : Int) (hx : (⟨x0, x1, x2⟩ : S45) = l.getD (impl_Disk_place.idx nm l) z45) (htx : tx.toList.isEmpty = true) (hsame : (tt.toList == nm.toList) = false) (hless : ¬ x2 < (x1.size : Int)) (b : Bool) (hok : impl_fileOk.f tt x1 x2 = some b) :
 Calls Try.prog 87 #[.pointer (some ⟨gb, 0, none⟩), .agg #[.int .i64 3, .string nm, .string tx, .string tt]] w fun e w' => e = .returned (.bool b) ∧ ∃ v', w'.heap[gb]? = some (.cells #[v'] 30 (0, 0)) ∧ Kd.R k45 45 w' base (fun _ => True) v' (impl_Disk_put.putL ⟨tt, x1, x2⟩ (l.eraseIdx (impl_Disk_place.idx nm l))) ∧ impl_Disk_put.FrS w w' (fun k => k = gb ∨ some k = (Value.slice A l.length c).ownBlock) := by
 have HOLD : Aside0 (∀ g, (Value.slice A l.length c).ownBlock = some g → g < w.heap.size) := ⟨fun g hg => by
  obtain ⟨cells, hcells⟩ := Kd.R_typed hR g hg
  exact blk_lt hcells⟩
 have HR := Aside0.mk hR
 have BK := Aside0.mk hb
 have HBW := Aside0.mk hbw
 clear hR hb hbw
 go_enter Try.func87, Try.ntmps87
 go_wp2_with (first | ((with_reducible refine gate_dst (N := 3) rfl ?_); refine bxE 3 #[.int .i64 3, .string nm, .string tx, .string tt] 55 ?_; intro ga hg_ w1 hbox_ hb_; have H1 := Aside0.mk hb_; have BA1 := Aside0.mk hbox_; have GA1 := Aside0.mk hg_; clear hb_ hbox_ hg_; have BK1 := Aside0.mk (blk_below BK.out H1.out); have HR1 := Aside0.mk (Kd.R_below HR.out H1.out); have hca0 := czA BA1.out 0 (.int .i64 3); have hca1 := czA BA1.out 1 (.string nm); have hca2 := czA BA1.out 2 (.string tx); have hca3 := czA BA1.out 3 (.string tt)))
 go_at_call 120
 refine (impl_Disk_place.calls gb A c l nm w1 (Kd.R_reads' HR1.out).2.2 BK1.out (by omega)).mono ?_
 rintro e w2 ⟨rfl, hd_⟩
 obtain ⟨nd, hnd⟩ := hd_.out
 have D2 : Aside0 (impl_Disk_do.DS w w2 base gb ga #[.int .i64 3, .string nm, .string tx, .string tt] (.slice A l.length c) l (fun k => k = gb ∨ some k = (Value.slice A l.length c).ownBlock)) := ⟨⟨by rw [hnd]; exact blk_drewN BK1.out nd, by rw [hnd]; exact blk_drewN BA1.out nd, by rw [hnd]; exact Kd.R_drewN HR1.out nd, by rw [hnd]; exact impl_Disk_put.FrS.ofBelow (pw_below_drewN H1.out nd)⟩⟩
 have HS2 := Aside0.mk (show w.heap.size ≤ w2.heap.size from D2.out.fr.rest.size)
 clear hnd hca0 hca1 hca2 hca3 hd_ HR1 BK1 BA1 H1
 have hca0 := czA D2.out.ba 0 (.int .i64 3)
 have hca1 := czA D2.out.ba 1 (.string nm)
 have hca2 := czA D2.out.ba 2 (.string tx)
 have hca3 := czA D2.out.ba 3 (.string tt)
 have hcz := czA D2.out.bk 0 (.slice A l.length c)
 have hil := impl_Disk_do.has_lt hh
 obtain ⟨g, rfl⟩ := impl_Disk_do.row_some D2.out.hr (by omega)
 rw [hh]
 have HX := Aside0.mk hx
 clear hx
 obtain ⟨i, hI⟩ : ∃ i, i = impl_Disk_place.idx nm l := ⟨_, rfl⟩
 rw [← hI] at hil HX ⊢
 have HII := Aside0.mk hI
 clear hh hI
 have hi0 : (0 : Int) ≤ (i : Int) := by omega
 have hi1 : (i : Int) < (l.length : Int) := by omega
 have hw1 : wrap64 ((i : Int) + 1) = (i : Int) + 1 := by unfold wrap64; omega
 have hw2 : IntKind.i64.wrap ((i : Int) + 1) = (i : Int) + 1 := by rw [IntKind.wrap_i64]; omega
 obtain ⟨hce0, hce1, hce2⟩ := impl_Disk_do.DS.elem D2.out hil HX.out
 have hcz := czA D2.out.bk 0 (.slice (some ⟨g, 0, none⟩) l.length c)
 go_wp2_with (first | ((with_reducible refine gate_dst (N := 8) rfl ?_); refine bxE 8 #[.string ⟨#[]⟩, .string ⟨#[]⟩, .int .i64 0] 45 ?_; intro gf hg_ w3 hbox_ hb_; have H3 := Aside0.mk hb_; have BF3 := Aside0.mk hbox_; have GF3 := Aside0.mk hg_; clear hb_ hbox_ hg_; have D3 := Aside0.mk (D2.out.below H3.out); have HN := Aside0.mk (show some gf ≠ (Value.slice (some ⟨g, 0, none⟩) l.length c).ownBlock from fun e => by have h1 := D2.out.old gf e.symm; have h2 := GF3.out; omega); have HGF := Aside0.mk (show w.heap.size ≤ gf by have h1 := HS2.out; have h2 := GF3.out; omega); have hca0 := czA D3.out.ba 0 (.int .i64 3); have hca1 := czA D3.out.ba 1 (.string nm); have hca2 := czA D3.out.ba 2 (.string tx); have hca3 := czA D3.out.ba 3 (.string tt); have hcz := czA D3.out.bk 0 (.slice (some ⟨g, 0, none⟩) l.length c); have hcf0 := czA BF3.out 0 (.string ⟨#[]⟩); have hcf1 := czA BF3.out 1 (.string ⟨#[]⟩); have hcf2 := czA BF3.out 2 (.int .i64 0)) | (refine store_blk rfl rfl 45 (.tmp 8) (.tmp 77) rfl (g := gf) (off := 0) (e := 45) (cur := #[.string ⟨#[]⟩, .string ⟨#[]⟩, .int .i64 0]) (.agg #[.string x0, .string x1, .int .i64 x2]) [.string x0, .string x1, .int .i64 x2] ?sp ?sx rfl impl_Disk_do.size45 BF3.out (by simp) (fun q hq => by simp at hq; rcases hq with rfl | rfl | rfl <;> rfl) ?_; (case sp => rfl); (case sx => first | rfl | (simp [Act.eval]; done)); intro w4 cur_ h_ hl_ hg_; obtain rfl := impl_Disk_do.cur_eq hl_; have BF4 : Aside0 (w4.heap[gf]? = some (.cells #[.string x0, .string x1, .int .i64 x2] 45 (0, 0))) := ⟨h_⟩; have D4 := Aside0.mk (impl_Disk_do.DS.own D3.out hg_ BF3.out HN.out HGF.out); clear h_ hl_ hg_; obtain ⟨hce0, hce1, hce2⟩ := impl_Disk_do.DS.elem D4.out hil HX.out; have hca0 := czA D4.out.ba 0 (.int .i64 3); have hca1 := czA D4.out.ba 1 (.string nm); have hca2 := czA D4.out.ba 2 (.string tx); have hca3 := czA D4.out.ba 3 (.string tt); have hcz := czA D4.out.bk 0 (.slice (some ⟨g, 0, none⟩) l.length c); have hcf0 := czA BF4.out 0 (.string x0); have hcf1 := czA BF4.out 1 (.string x1); have hcf2 := czA BF4.out 2 (.int .i64 x2)))
 have hl2 : l.length ≤ 1099511627776 := Nat.le_trans hl (by decide)
 have hb2 : base ≤ w4.heap.size := Nat.le_trans HBW.out D4.out.fr.rest.size
 have hdel := impl_File_122.calls g l.length c i base l w4 D4.out.hr hil hl2 hb2
 rw [show ((i + 1 : Nat) : Int) = (i : Int) + 1 by omega] at hdel
 go_at_call 122
 refine hdel.mono ?_
 clear hdel
 rintro e w5 ⟨c5, rfl, hr5, hg5⟩
 have hlen5 : l.length - 1 = (l.eraseIdx i).length := by rw [List.length_eraseIdx, if_pos hil]
 rw [hlen5] at hr5 ⊢
 obtain ⟨hb5, ha5, hf5⟩ := impl_Disk_do.DS.grow D4.out (by simpa [Value.ownBlock] using hg5) hr5 (fun k hk => Or.inr hk.symm)
 have BF5 := Aside0.mk (impl_Disk_do.gkeep hg5 BF4.out (fun e => HN.out (by simpa [Value.ownBlock] using e)))
 have HB5 := Aside0.mk hb5
 have HA5 := Aside0.mk ha5
 have HF5 := Aside0.mk hf5
 have HR5 := Aside0.mk hr5
 have HNE := Aside0.mk (show gf ≠ gb from fun e => by
  subst e
  have h1 := BF5.out.symm.trans hb5
  simp at h1)
 have hcz5 := czA hb5 0 (.slice (some ⟨g, 0, none⟩) l.length c)
 have hfz5 := blk_frozen hb5 0
 obtain ⟨n5, hn5⟩ : ∃ n5, n5 = (l.eraseIdx i).length := ⟨_, rfl⟩
 rw [← hn5] at HR5 ⊢
 have HN5 := Aside0.mk hn5
 clear hb5 ha5 hf5 hr5 hg5 hlen5 hn5
 go_wp2_with (first | (refine store_blk rfl rfl 28 (.tmp 130) (.tmp 128) rfl (g := gb) (off := 0) (e := 30) (cur := #[.slice (some ⟨g, 0, none⟩) l.length c]) (.slice (some ⟨g, 0, none⟩) n5 c5) [.slice (some ⟨g, 0, none⟩) n5 c5] ?sp ?sx rfl impl_Disk_do.size28 HB5.out (by simp) (fun q hq => by simp at hq; subst hq; rfl) ?_; (case sp => rfl); (case sx => first | rfl | (simp [Act.eval]; done)); intro w6 cur_ h_ hl_ hg_; obtain rfl := impl_Disk_do.cur_eq hl_; have D6 := Aside0.mk (impl_Disk_do.DS.lay3 HB5.out HA5.out HF5.out HR5.out hg_ h_ (Or.inl rfl)); have BF6 := Aside0.mk (impl_Disk_do.gkeep hg_ BF5.out HNE.out); clear h_ hl_ hg_; have hca0 := czA D6.out.ba 0 (.int .i64 3); have hca1 := czA D6.out.ba 1 (.string nm); have hca2 := czA D6.out.ba 2 (.string tx); have hca3 := czA D6.out.ba 3 (.string tt); have hcz := czA D6.out.bk 0 (.slice (some ⟨g, 0, none⟩) n5 c5); have hcf0 := czA BF6.out 0 (.string x0); have hcf1 := czA BF6.out 1 (.string x1); have hcf2 := czA BF6.out 2 (.int .i64 x2)) | (refine store_blk rfl rfl 9 (.tmp 133) (.tmp 132) rfl (g := gf) (off := 0) (e := 45) (cur := #[.string x0, .string x1, .int .i64 x2]) (.string tt) [.string tt] ?sp ?sx rfl impl_Disk_do.size9 BF6.out (by simp) (fun q hq => by simp at hq; rcases hq with rfl <;> rfl) ?_; (case sp => rfl); (case sx => first | rfl | (simp [Act.eval]; done)); intro w7 cur_ h_ hl_ hg_; obtain rfl := impl_Disk_do.cur_eq hl_; have BF7 : Aside0 (w7.heap[gf]? = some (.cells #[.string tt, .string x1, .int .i64 x2] 45 (0, 0))) := ⟨h_⟩; have D7 := Aside0.mk (impl_Disk_do.DS.own D6.out hg_ BF6.out (by simpa only [Value.ownBlock] using HN.out) HGF.out); clear h_ hl_ hg_; have hca0 := czA D7.out.ba 0 (.int .i64 3); have hca1 := czA D7.out.ba 1 (.string nm); have hca2 := czA D7.out.ba 2 (.string tx); have hca3 := czA D7.out.ba 3 (.string tt); have hcz := czA D7.out.bk 0 (.slice (some ⟨g, 0, none⟩) n5 c5); have hcf0 := czA BF7.out 0 (.string tt); have hcf1 := czA BF7.out 1 (.string x1); have hcf2 := czA BF7.out 2 (.int .i64 x2)))
 have HR7 := Aside0.mk (show Kd.R k45 45 w7 base (fun _ => True) (.slice (some ⟨g, 0, none⟩) (l.eraseIdx i).length c5) (l.eraseIdx i) by rw [← HN5.out]; exact D7.out.hr)
 have hl3 : (l.eraseIdx i).length ≤ 1099511627776 := by have := List.length_eraseIdx_le l i; omega
 have hb3 : base ≤ w7.heap.size := Nat.le_trans HBW.out D7.out.fr.rest.size
 have hput := impl_Disk_put.calls gb base _ c5 (l.eraseIdx i) ⟨tt, x1, x2⟩ w7 HR7.out (by rw [← HN5.out]; exact D7.out.bk) hl3 hb3
 rw [← HN5.out] at hput
 dsimp only at hput
 go_at_call 121
 refine hput.mono ?_
 clear hput
 rintro e w9 ⟨rfl, v9, hb9, hr9, hf9⟩
 have hob : ∀ (n d : Nat), (Value.slice (some ⟨g, 0, none⟩) n d).ownBlock = some g := fun n d => by simp only [Value.ownBlock]
 have D9 := Aside0.mk (impl_Disk_do.DS.put D7.out hf9 hb9 hr9 (fun k _ h => by rw [hob] at h ⊢; exact h))
 have BF9 := Aside0.mk (impl_Disk_do.boxkeep hf9 BF7.out D7.out.bk (by rw [hob]; have := HN.out; rw [hob] at this; exact this))
 clear hb9 hr9 hf9 hob
 have hcf0 := czA BF9.out 0 (.string tt)
 have hcf1 := czA BF9.out 1 (.string x1)
 have hcf2 := czA BF9.out 2 (.int .i64 x2)
 go_wp2_with (first | (go_at_call 75; refine (impl_fileOk.calls _ _ _ b _ hok).mono ?_; rintro e w10 ⟨rfl, hb_⟩; have D10 := Aside0.mk (D9.out.below hb_); clear hb_))
 go_ret
 exact ⟨rfl, _, D10.out.bk, by rw [← HII.out]; exact D10.out.hr, D10.out.fr⟩

def impl_Disk_do.doF (kd : Int) (nm tx tt : ByteArray) (l : List S45) : Option (List S45 × Bool) :=
 if l.length ≤ 1099511627775 then
  if kd = 1 then
   if (impl_Disk_do.addF nm tx l).f1.size ≤ 9223372036854775807 then (impl_fileOk.f (impl_Disk_do.addF nm tx l).f0 (impl_Disk_do.addF nm tx l).f1 (impl_Disk_do.addF nm tx l).f2).bind fun b => some (impl_Disk_put.putL (impl_Disk_do.addF nm tx l) l, tt.toList.isEmpty && b && decide (((impl_Disk_put.putL (impl_Disk_do.addF nm tx l) l).length : Int) ≤ 30)) else none
  else if impl_Disk_place.has nm l = true then
   if tx.toList.isEmpty = true then
    if kd = 3 then
     if (tt.toList == nm.toList) = true then some (l, false)
     else if (l.getD (impl_Disk_place.idx nm l) z45).f2 < ((l.getD (impl_Disk_place.idx nm l) z45).f1.size : Int) then some (l, false)
     else (impl_fileOk.f tt (l.getD (impl_Disk_place.idx nm l) z45).f1 (l.getD (impl_Disk_place.idx nm l) z45).f2).bind fun b => some (impl_Disk_put.putL ⟨tt, (l.getD (impl_Disk_place.idx nm l) z45).f1, (l.getD (impl_Disk_place.idx nm l) z45).f2⟩ (l.eraseIdx (impl_Disk_place.idx nm l)), b)
    else if tt.toList.isEmpty = true then
     if kd = 2 then some (l.set (impl_Disk_place.idx nm l) ⟨(l.getD (impl_Disk_place.idx nm l) z45).f0, (l.getD (impl_Disk_place.idx nm l) z45).f1, ((l.getD (impl_Disk_place.idx nm l) z45).f1.size : Int)⟩, true)
     else if kd = 4 then some (l.eraseIdx (impl_Disk_place.idx nm l), true)
     else some (l, false)
    else some (l, false)
   else some (l, false)
  else some (l, false)
 else none
set_option maxHeartbeats 1000000 in
theorem impl_Disk_do.calls (gb base : Nat) (A : Option Addr) (c : Nat) (l : List S45) (kd : Int) (nm tx tt : ByteArray) (l' : List S45) (r : Bool) (w : World) (hR : Kd.R k45 45 w base (fun _ => True) (.slice A l.length c) l) (hb : w.heap[gb]? = some (.cells #[.slice A l.length c] 30 (0, 0))) (hbw : base ≤ w.heap.size) (h : impl_Disk_do.doF kd nm tx tt l = some (l', r)) :
 Calls Try.prog 87 #[.pointer (some ⟨gb, 0, none⟩), .agg #[.int .i64 kd, .string nm, .string tx, .string tt]] w fun e w' => e = .returned (.bool r) ∧ ∃ v', w'.heap[gb]? = some (.cells #[v'] 30 (0, 0)) ∧ Kd.R k45 45 w' base (fun _ => True) v' l' ∧ impl_Disk_put.FrS w w' (fun k => k = gb ∨ some k = (Value.slice A l.length c).ownBlock) := by
 unfold impl_Disk_do.doF at h
 by_cases hl : l.length ≤ 1099511627775
 case neg => rw [if_neg hl] at h; cases h
 rw [if_pos hl] at h
 by_cases hk1 : kd = 1
 ·rw [if_pos hk1] at h
  subst hk1
  by_cases hs : (impl_Disk_do.addF nm tx l).f1.size ≤ 9223372036854775807
  case neg => rw [if_neg hs] at h; cases h
  rw [if_pos hs] at h
  obtain ⟨b, hok, h2⟩ := Option.bind_eq_some_iff.mp h
  injection h2 with h2
  obtain ⟨rfl, rfl⟩ := Prod.mk.inj h2
  cases hh : impl_Disk_place.has nm l with
  | false =>
   have hA : impl_Disk_do.addF nm tx l = ⟨nm, ⟨#[]⟩ ++ tx, 0⟩ := by unfold impl_Disk_do.addF; rw [if_neg (by rw [hh]; decide)]
   have hok' := hok
   have hs' := hs
   rw [hA] at hok' hs'
   exact impl_Disk_do.do_add_new gb base A c l nm tx tt w hR hb hl hbw hh (by
    have e : (⟨#[]⟩ ++ tx : ByteArray).size = 0 + tx.size := ByteArray.size_append
    dsimp only at hs'
    omega) b hok'
  | true =>
   have hA : impl_Disk_do.addF nm tx l = ⟨(l.getD (impl_Disk_place.idx nm l) z45).f0, (l.getD (impl_Disk_place.idx nm l) z45).f1 ++ tx, (l.getD (impl_Disk_place.idx nm l) z45).f2⟩ := by unfold impl_Disk_do.addF; rw [if_pos hh]
   have hok' := hok
   have hs' := hs
   rw [hA] at hok' hs'
   exact impl_Disk_do.do_add_has gb base A c l nm tx tt w hR hb hl hbw hh (l.getD (impl_Disk_place.idx nm l) z45).f0 (l.getD (impl_Disk_place.idx nm l) z45).f1 (l.getD (impl_Disk_place.idx nm l) z45).f2 rfl (by
    have e : ((l.getD (impl_Disk_place.idx nm l) z45).f1 ++ tx : ByteArray).size = (l.getD (impl_Disk_place.idx nm l) z45).f1.size + tx.size := ByteArray.size_append
    dsimp only at hs'
    omega) b hok'
 rw [if_neg hk1] at h
 cases hh : impl_Disk_place.has nm l with
 | false =>
  rw [hh, if_neg (by decide)] at h
  injection h with h
  obtain ⟨rfl, rfl⟩ := Prod.mk.inj h
  exact impl_Disk_do.do_no1 gb base A c l kd nm tx tt w hR hb hl hbw hk1 hh
 | true =>
  rw [hh, if_pos rfl] at h
  cases htx : tx.toList.isEmpty with
  | false =>
   rw [htx, if_neg (by decide)] at h
   injection h with h
   obtain ⟨rfl, rfl⟩ := Prod.mk.inj h
   exact impl_Disk_do.do_no2 gb base A c l kd nm tx tt w hR hb hl hbw hk1 hh htx
  | true =>
   rw [htx, if_pos rfl] at h
   by_cases hk3 : kd = 3
   ·rw [if_pos hk3] at h
    subst hk3
    cases hsame : (tt.toList == nm.toList) with
    | true =>
     rw [hsame, if_pos rfl] at h
     injection h with h
     obtain ⟨rfl, rfl⟩ := Prod.mk.inj h
     exact impl_Disk_do.do_mv_same gb base A c l nm tx tt w hR hb hl hbw hh _ _ _ rfl htx hsame
    | false =>
     rw [hsame, if_neg (by decide)] at h
     by_cases hless : (l.getD (impl_Disk_place.idx nm l) z45).f2 < ((l.getD (impl_Disk_place.idx nm l) z45).f1.size : Int)
     ·rw [if_pos hless] at h
      injection h with h
      obtain ⟨rfl, rfl⟩ := Prod.mk.inj h
      exact impl_Disk_do.do_mv_less gb base A c l nm tx tt w hR hb hl hbw hh _ _ _ rfl htx hsame hless
     ·rw [if_neg hless] at h
      obtain ⟨b, hok, h2⟩ := Option.bind_eq_some_iff.mp h
      injection h2 with h2
      obtain ⟨rfl, rfl⟩ := Prod.mk.inj h2
      exact impl_Disk_do.do_mv gb base A c l nm tx tt w hR hb hl hbw hh _ _ _ rfl htx hsame hless _ hok
   ·rw [if_neg hk3] at h
    cases htt : tt.toList.isEmpty with
    | false =>
     rw [htt, if_neg (by decide)] at h
     injection h with h
     obtain ⟨rfl, rfl⟩ := Prod.mk.inj h
     exact impl_Disk_do.do_no3 gb base A c l kd nm tx tt w hR hb hl hbw hk1 hk3 hh htx htt
    | true =>
     rw [htt, if_pos rfl] at h
     by_cases hk2 : kd = 2
     ·rw [if_pos hk2] at h
      subst hk2
      injection h with h
      obtain ⟨rfl, rfl⟩ := Prod.mk.inj h
      exact impl_Disk_do.do_keep gb base A c l nm tx tt w hR hb hl hbw hh _ _ _ rfl htx htt
     ·rw [if_neg hk2] at h
      by_cases hk4 : kd = 4
      ·rw [if_pos hk4] at h
       subst hk4
       injection h with h
       obtain ⟨rfl, rfl⟩ := Prod.mk.inj h
       exact impl_Disk_do.do_drop gb base A c l nm tx tt w hR hb hl hbw hh _ _ _ rfl htx htt
      ·rw [if_neg hk4] at h
       injection h with h
       obtain ⟨rfl, rfl⟩ := Prod.mk.inj h
       exact impl_Disk_do.do_other gb base A c l kd nm tx tt w hR hb hl hbw hh _ _ _ rfl hk1 hk2 hk3 hk4 htx htt

end Go.Proofs.Ytidfhfaekdahpaa.QFnActs
