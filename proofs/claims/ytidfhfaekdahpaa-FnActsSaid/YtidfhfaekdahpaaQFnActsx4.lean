-- Own work (wip/turnprint.py over the kit's print).
import Derived.Test.YtidfhfaekdahpaaQFnActsx0
namespace Go.Proofs.Ytidfhfaekdahpaa.QFnActs
open Go.RowKit Go.Proofs.YtidfhfaekdahpaaW.PrintWords Go.Proofs.YtidfhfaekdahpaaW.PrintLast Go.Proofs.YtidfhfaekdahpaaW.PrintMore
attribute [local go_sem] max2_int min2_int max_two min_two max_three min_three max_four min_four   -- for this text's walks alone
attribute [local go_sem] Go.Proofs.YtidfhfaekdahpaaQWords.run_lss_str
attribute [local go_sem] Go.Proofs.YtidfhfaekdahpaaQWords.run_geq_str
attribute [local go_sem] Go.Proofs.YtidfhfaekdahpaaQWords.run_leq_str
attribute [local go_sem] Go.Proofs.YtidfhfaekdahpaaQWords.run_gtr_str
set_option linter.unusedVariables false
set_option linter.unusedSimpArgs false

/-! ### impl_File_119: function 119 (given by the session) -/
def impl_File_119.f (l0 : List S45) : Option (List S45) := if l0.length ≤ 1099511627776 then some l0 else none
set_option maxHeartbeats 2000000 in
set_option maxRecDepth 100000 in
theorem impl_File_119.calls (A0 : Option Addr) (c0 : Nat) (l0 : List S45) (r : List S45) (w : World) (hr0 : Kd.C k45 w A0 l0.length l0) (hc0 : l0.length ≤ c0) (h : impl_File_119.f l0 = some r) :
 Calls Try.prog 119 #[.slice A0 l0.length c0] w fun e w' => ∃ v0_ : Value, e = .returned (v0_) ∧ Kd.R k45 45 w' w.heap.size (fun _ => True) v0_ r ∧ Below w.heap.size w w' := by
 unfold impl_File_119.f at h
 by_cases hs : l0.length ≤ 1099511627776
 case neg => rw [if_neg hs] at h; cases h
 rw [if_pos hs] at h
 obtain rfl := Option.some.inj h
 clear h
 have HR0 := Aside0.mk hr0
 clear hr0
 have HB := Aside0.mk (Below.refl w.heap.size w)
 cases A0 with
 | none =>
  have h0 : l0 = [] := by
   rcases Nat.eq_zero_or_pos l0.length with h0 | h0
   ·exact List.eq_nil_of_length_eq_zero h0
   ·obtain ⟨ad, h1, _⟩ := HR0.out.2.2 h0
    cases h1
  subst h0
  have hq := fun W => Lib.run_eql_slice_nil (P := Try.prog) W 28 45 none 0 c0 0 0 Try.underlying28
  go_enter Try.func119, Try.ntmps119
  go_wp2
  go_ret
  exact ⟨_, rfl, Kd.R_nil _ _ _ _ _, HB.out⟩
 | some ad =>
  have hq := fun W => Lib.run_eql_slice_nil (P := Try.prog) W 28 45 (some ad) l0.length c0 0 0 Try.underlying28
  go_enter Try.func119, Try.ntmps119
  go_wp2_with (first | ((with_reducible refine gate_dst (N := 5) rfl ?_); refine Kd.R_lit k45 _ 45 ?hg (N := 5) ?hd (xs := ([] : List S45)) (inner := []) (ok := fun _ => True) (okp := fun _ => True) ?hr ?hp (fun _ hk => hk) trivial (Below.refl _ _) (Nat.le_refl _) (by simp) ?_; (case hd => rfl); (case hg => rfl); (case hr => first | (go_simp; done) | (go_simp; rfl)); (case hp => exact (Reps.none _ _)); intro v5 w2 ho3 hb hg_ hnew_; clear hg_ hnew_; have n1_ := Aside0.mk (below_step (q0_ HB) hb); clear HB; have HO := Aside0.mk ho3; have HB := n1_; clear n1_; clear hb ho3) | ((with_reducible refine gate_builtin (b := .append) (xs := #[.tmp 5, .tmp 6]) rfl ?_); at_builtin; refine Kd.R_append_rows k45 (w0 := w) w.heap.size rfl (.tmp 5) (.tmp 6) 28 45 _ _ rfl Try.underlying28 info45 rfl (by decide) (by omega) v5 [] l0 _ _ _ (fun _ => True) (fun _ => False) rfl rfl ?aO ?aR (fun _ _ h => h) (fun _ h => h.elim) (fun _ _ => trivial) HB.out (below_size HB.out) (by simp only [List.length_nil]; omega) ?_; (case aO => exact HO.out); (case aR => exact Kd.C_below HR0.out HB.out); intro v7 w6 ho hb hg hat; simp only [List.nil_append] at ho; have HO2 := Aside0.mk ho; have HB2 := Aside0.mk hb; clear ho hat hb hg))
  go_ret
  exact ⟨_, rfl, HO2.out, HB2.out⟩

/-! ### impl_copyDisk: function 82 -/
def impl_copyDisk.f (l0_0 : List (S45)) : Option ((List (S45))) := (impl_File_119.f l0_0).bind fun t118 => (some t118)
set_option maxHeartbeats 8000000 in
set_option maxRecDepth 100000 in
theorem impl_copyDisk.calls (A0_0 : Option Addr) (c0_0 : Nat) (l0_0 : List (S45)) (r : List (S45)) (w : World) (hr0_0 : Kd.C k45 w A0_0 l0_0.length l0_0) (hc0_0 : l0_0.length ≤ c0_0) (h : impl_copyDisk.f l0_0 = some r) :
 Calls Try.prog 82 #[.agg #[.slice A0_0 l0_0.length c0_0]] w fun e w' => ∃ v0_ : Value, e = .returned (.agg #[v0_]) ∧ Kd.R k45 45 w' w.heap.size (fun _ => True) v0_ r ∧ Below w.heap.size w w' := by
 have hu30 := Try.underlying30
 have HR0_0 := aM hr0_0
 have HC0_0 := aM hc0_0
 clear hr0_0 hc0_0
 have HB := aM (Below.refl w.heap.size w)
 have H : ((impl_File_119.f l0_0).bind fun t118 => (some t118)) = some r := h
 clear h
 replace H := Option.bind_eq_some_iff.mp H
 obtain ⟨t118, A20, H⟩ := H
 replace H : (some t118) = some r := H
 have A2 := aM A20
 clear A20
 obtain rfl := Option.some.inj H
 go_enter Try.func82, Try.ntmps82
 go_wp2_with (first | ((with_reducible refine gate_dst (N := 1) rfl ?_); refine bxE 1 #[.slice A0_0 l0_0.length c0_0] 30 ?_; intro gb116 hg w3 hbox hb; have BK116 := aM (hbox); have GW116 := szG hg (uL HB); have GE116 := szG hg (uL HB); replace HB := aM (below_step (uL HB) hb); clear hb hbox hg) | ((with_reducible refine gate_dst (N := 2) rfl ?_); refine bxE 2 #[.slice none 0 0] 30 ?_; intro gb117 hg w4 hbox hb; have BK117 := aM (hbox); have GW117 := szG hg (uL HB); have GE117 := szG hg (uL HB); have NB116_117 := neL hg BK116; have NB117_116 := neG hg BK116; replace BK116 := blkB BK116 hb; replace HB := aM (below_step (uL HB) hb); clear hb hbox hg; have hnb5 := NB116_117.out; have hnc5 := NB117_116.out; have hcz6_0 := czA BK116.out 0 (.slice A0_0 l0_0.length c0_0); have hfz6_0 := blk_frozen BK116.out 0) | ((with_reducible refine gate_callee (f := 119) rfl ?_); refine gL (some 5) Try.func119 #[.slice A0_0 l0_0.length c0_0] ?_; (with_reducible refine (impl_File_119.calls _ _ l0_0 t118 _ ?side1 ?side2 A2.out).mono ?_); (case side1 => exact uC HR0_0 HB); (case side2 => exact HC0_0.out); rintro e w7 ⟨v119, rfl, ho0, hb⟩; refine ⟨_, rfl, ?_⟩; have HO120 := aM (Kd.R_lower ho0 (below_size (uL HB))); replace BK116 := blkB BK116 hb; replace BK117 := blkB BK117 hb; replace HB := aM (below_step (uL HB) hb); try clear hb ho0; obtain ⟨Ao8, co8, eo8⟩ := Kd.R_slice HO120.out; subst eo8; have hcz9_0 := czA BK117.out 0 (.slice none 0 0); have hfz9_0 := blk_frozen BK117.out 0))
 refine bodyPost_ret (results_cell_row rfl _ _ gb117 30 #[.slice Ao8 t118.length co8] (0, 0) _ rfl (by refine nB ?_; refine blk_put (cs := #[.slice none 0 0]) ?_ 0 _ rfl; exact nB BK117.out) Try.underlying30 rfl (by kernel_rfl)) rfl ?_
 exact ⟨_, by first | rfl | (simp [errW_none, errW_some] <;> rfl) | (simp [*, errW_none, errW_some] <;> rfl), by (with_reducible repeat first | apply rA | apply rN | apply rD); exact Kd.R_mono (Kd.R_far (p := ⟨gb117, 0, none⟩) (Kd.R_types HO120.out BK117.out (by decide)) (fun _ hk => hk.2) (.slice Ao8 t118.length co8)) (fun _ hk => trivial), uL HB⟩

/-! ### impl_Disk_place: function 120 (given by the session) -/
/-- where a file of a name stands or would stand -/
def impl_Disk_place.idx (s : ByteArray) : List S45 → Nat
 | [] => 0
 | x :: xs => if Op.bytesLess x.f0.toList s.toList = true then impl_Disk_place.idx s xs + 1 else 0
def impl_Disk_place.has (s : ByteArray) (l : List S45) : Bool := decide (impl_Disk_place.idx s l < l.length) && ((l.getD (impl_Disk_place.idx s l) z45).f0.toList == s.toList)
theorem impl_Disk_place.idx_le (s : ByteArray) (l : List S45) : impl_Disk_place.idx s l ≤ l.length := by
 induction l with
 | nil => exact Nat.le_refl _
 | cons x xs ih =>
  rw [impl_Disk_place.idx, List.length_cons]
  split <;> omega
theorem impl_Disk_place.idx_drop (s : ByteArray) (l : List S45) (i : Nat) (h : i < l.length) : impl_Disk_place.idx s (l.drop i) = if Op.bytesLess (l.getD i z45).f0.toList s.toList = true then impl_Disk_place.idx s (l.drop (i + 1)) + 1 else 0 := by
 have e : l.drop i = l.getD i z45 :: l.drop (i + 1) := by
  rw [List.drop_eq_getElem_cons h, List.getD_eq_getElem?_getD, List.getElem?_eq_getElem h]
  rfl
 rw [e, impl_Disk_place.idx]
set_option maxHeartbeats 4000000 in
set_option maxRecDepth 100000 in
theorem impl_Disk_place.calls (gb : Nat) (A : Option Addr) (c : Nat) (l : List S45) (s : ByteArray) (w : World) (hr : Kd.C k45 w A l.length l) (hb : w.heap[gb]? = some (.cells #[.slice A l.length c] 30 (0, 0))) (hl : l.length ≤ 1099511627776) :
 Calls Try.prog 120 #[.pointer (some ⟨gb, 0, none⟩), .string s] w fun e w' => e = .returned (.tuple #[.int .i64 ((impl_Disk_place.idx s l : Nat) : Int), .bool (impl_Disk_place.has s l)]) ∧ Drawn0 w w' := by
 have HD := Aside0.mk (Drawn0.refl w)
 have HR := Aside0.mk hr
 have BK := Aside0.mk hb
 have HI : Aside0 (impl_Disk_place.idx s (l.drop 0) + 0 = impl_Disk_place.idx s l) := ⟨rfl⟩
 clear hr hb
 go_enter Try.func120, Try.ntmps120
 go_wp2
 go_loopw [6] (fun v6 wr => ∃ i : Nat, i ≤ l.length ∧ v6 = .int .i64 (i : Int) ∧ Aside0 (impl_Disk_place.idx s (l.drop i) + i = impl_Disk_place.idx s l) ∧ Aside0 (Drawn0 w wr)) (fun v6 _ => l.length - (intOf v6).toNat)
 case atStart => exact ⟨0, Nat.zero_le _, rfl, HI, HD⟩
 case round =>
  clear HI HD
  obtain ⟨i, hi, rfl, HI, HD⟩ := hrel
  obtain ⟨n, hn⟩ := HD.out.out
  have HR2 := Aside0.mk (show Kd.C k45 wr A l.length l by rw [hn]; exact Kd.C_drewN HR.out n)
  have BK2 := Aside0.mk (show wr.heap[gb]? = some (.cells #[.slice A l.length c] 30 (0, 0)) by rw [hn]; exact blk_drewN BK.out n)
  clear hn
  have hcz0 := czA BK2.out 0 (.slice A l.length c)
  by_cases hlt : i < l.length
  ·obtain ⟨ad, rfl, h0, h1, h2⟩ := at_T45 HR2.out (i : Int) (by omega) (by omega)
   simp only [Int.toNat_natCast] at h0 h1 h2
   have HI2 := Aside0.mk ((congrArg (· + i) (impl_Disk_place.idx_drop s l i hlt)).symm.trans HI.out)
   have hx : rd_T45 l (i : Int) = l.getD i z45 := rfl
   rw [hx] at h0 h1 h2
   have HH : Aside0 (∀ b, Op.bytesLess (l.getD i z45).f0.toList s.toList = false → (((l.getD i z45).f0.toList == s.toList) = b) → impl_Disk_place.idx s l = i ∧ impl_Disk_place.has s l = b) := ⟨by
    intro b hb1 hb2
    have e : impl_Disk_place.idx s l = i := by
     have := HI2.out
     simp only [hb1] at this
     simpa using this.symm
    refine ⟨e, ?_⟩
    rw [impl_Disk_place.has, e, hb2, decide_eq_true hlt, Bool.true_and]⟩
   clear HI hx
   generalize l.getD i z45 = x at h0 h1 h2 HI2 HH
   obtain ⟨n0, t, kk⟩ := x
   dsimp only at h0 h1 h2
   clear h1 h2
   have hp : (i : Int) < (l.length : Int) := by omega
   by_cases hless : Op.bytesLess n0.toList s.toList = true
   ·have HI3 := Aside0.mk (show impl_Disk_place.idx s (l.drop (i + 1)) + (i + 1) = impl_Disk_place.idx s l by
     have := HI2.out
     simp only [hless, if_true] at this
     omega)
    clear HI2 HH
    go_wp2
    exact ⟨⟨i + 1, by omega, by first | rfl | go_num, HI3, by first | exact HD | exact ⟨HD.out.step _⟩⟩, by simp [intOf]; omega⟩
   ·have hless := Bool.eq_false_iff.2 hless
    obtain ⟨he1, he2⟩ := HH.out _ hless rfl
    clear HI2 HH
    have HE := Aside0.mk (show (Value.tuple #[.int .i64 (i : Int), .bool (n0.toList == s.toList)]) = Value.tuple #[.int .i64 ((impl_Disk_place.idx s l : Nat) : Int), .bool (impl_Disk_place.has s l)] by rw [he1, he2])
    clear he1 he2
    go_wp2
    go_quiet (fail)
    try go_wp2
    first | go_ret2 | go_ret
    exact ⟨congrArg Ending.returned HE.out, HD.out.step _⟩
  ·obtain rfl : i = l.length := by omega
   have HE := Aside0.mk (show impl_Disk_place.idx s l = l.length by
    have := HI.out
    rw [List.drop_of_length_le (Nat.le_refl _)] at this
    simpa [impl_Disk_place.idx] using this.symm)
   have HF := Aside0.mk (show impl_Disk_place.has s l = false by rw [impl_Disk_place.has, HE.out]; simp)
   have HG := Aside0.mk (show (Value.tuple #[.int .i64 (l.length : Int), .bool false]) = Value.tuple #[.int .i64 ((impl_Disk_place.idx s l : Nat) : Int), .bool (impl_Disk_place.has s l)] by rw [HF.out, HE.out])
   have hq0 : decide ((l.length : Int) < (l.length : Int)) = false := decide_eq_false (by omega)
   go_wp2
   go_quiet (fail)
   try go_wp2
   first | go_ret2 | go_ret
   exact ⟨congrArg Ending.returned HG.out, HD.out.step _⟩

/-! ### impl_File_135: function 135 (given by the session) -/
theorem impl_File_135.run_copy_rows {P : Program} (w : World) (dT sT ty elem : TypeId) (g o dLen dCap : Nat) (a : Addr) (sLen sCap : Nat) (cur : Array Value) (t : TypeId) (cs : List Value) (sz m : Nat)
 (hu : P.underlying dT = some (.slice elem)) (hs : (P.info? elem).map (·.size) = some sz)
 (hg : w.heap[g]? = some (.cells cur t (0, 0))) (hm : m = Nat.min sLen dLen) (hn : cs.length = m * sz)
 (hsrc : ∀ j v, cs[j]? = some v → w.cell? (a.add j) = some v) (hfit : o + cs.length ≤ cur.size) (h1 : ∀ v ∈ cs, v.oneCell' = true) :
 (Builtin.copy_ #[dT, sT] ty #[.slice (some ⟨g, o, none⟩) dLen dCap, .slice (some a) sLen sCap]).run P w =
  .ok (goInt m) (w.setRow g (cur.toList.take o ++ cs ++ cur.toList.drop (o + cs.length)).toArray) := by
 have hl := run_loadCells_list (P := P) w a cs hsrc
 have hst := run_storeCells_at P g o t cs 0 cur w hg (by simpa using hfit) h1
 cases hq : P.info? elem with
 | none => simp [hq] at hs
 | some i =>
  have hi : i.size = sz := by simpa [hq] using hs
  subst hm
  simp only [Nat.add_zero] at hst
  simp [Builtin.copy_, Builtin.firstCells, Builtin.lenOf, run_underlying hu, sizeOf, typeInfo, hq, hi]
  rw [← hn, hl]
  simp [hst]
/-- the cells of files -/
def impl_File_135.flat : List S45 → List Value
 | [] => []
 | x :: xs => .string x.f0 :: .string x.f1 :: .int .i64 x.f2 :: impl_File_135.flat xs
theorem impl_File_135.flat_length (l : List S45) : (impl_File_135.flat l).length = l.length * 3 := by
 induction l with
 | nil => rfl
 | cons x xs ih => simp [impl_File_135.flat, ih]; omega
theorem impl_File_135.flat_append (a b : List S45) : impl_File_135.flat (a ++ b) = impl_File_135.flat a ++ impl_File_135.flat b := by
 induction a with
 | nil => rfl
 | cons x xs ih => simp [impl_File_135.flat, ih]
theorem impl_File_135.flat_take (l : List S45) (i : Nat) : impl_File_135.flat (l.take i) = (impl_File_135.flat l).take (i * 3) := by
 induction l generalizing i with
 | nil => simp [impl_File_135.flat]
 | cons x xs ih =>
  cases i with
  | zero => simp [impl_File_135.flat]
  | succ i =>
   rw [List.take_succ_cons, impl_File_135.flat, ih, impl_File_135.flat, show (i + 1) * 3 = i * 3 + 1 + 1 + 1 by omega, List.take_succ_cons, List.take_succ_cons, List.take_succ_cons]
theorem impl_File_135.flat_drop (l : List S45) (i : Nat) : impl_File_135.flat (l.drop i) = (impl_File_135.flat l).drop (i * 3) := by
 induction l generalizing i with
 | nil => simp [impl_File_135.flat]
 | cons x xs ih =>
  cases i with
  | zero => simp
  | succ i =>
   rw [List.drop_succ_cons, ih, impl_File_135.flat, show (i + 1) * 3 = i * 3 + 1 + 1 + 1 by omega, List.drop_succ_cons, List.drop_succ_cons, List.drop_succ_cons]
theorem impl_File_135.flat_one (l : List S45) : ∀ v ∈ impl_File_135.flat l, v.oneCell' = true := by
 induction l with
 | nil => intro v hv; cases hv
 | cons x xs ih =>
  intro v hv
  simp only [impl_File_135.flat, List.mem_cons] at hv
  rcases hv with rfl | rfl | rfl | hv
  ·rfl
  ·rfl
  ·rfl
  ·exact ih v hv
theorem impl_File_135.reps_flat (w : World) (base : Nat) (ok : Nat → Prop) (l : List S45) : Reps (k45.M w base ok) 3 l (impl_File_135.flat l) := by
 induction l with
 | nil => exact Reps.none _ _
 | cons x xs ih => exact Reps.c3 (k45_mkM w base ok x) ih
theorem impl_File_135.flat_of_reps {w : World} {base : Nat} {ok : Nat → Prop} {l : List S45} {inner : List Value} (h : Reps (k45.M w base ok) 3 l inner) : inner = impl_File_135.flat l := by
 have h2 := impl_File_135.reps_flat w base ok l
 apply List.ext_getElem (by rw [h.1, h2.1])
 intro j h3 h4
 have hj : j / 3 < l.length := by rw [h.1] at h3; omega
 have e1 := k45_openM (h.2 (j / 3) _ (List.getElem?_eq_getElem hj))
 have e2 := k45_openM (h2.2 (j / 3) _ (List.getElem?_eq_getElem hj))
 have e := congrArg (fun z => z[j % 3]?) (e1.trans e2.symm)
 simp only [List.getElem?_take, List.getElem?_drop] at e
 rw [if_pos (by omega), if_pos (by omega), show j / 3 * 3 + j % 3 = j by omega, List.getElem?_eq_getElem h3, List.getElem?_eq_getElem h4] at e
 exact Option.some.inj e
theorem impl_File_135.R_flat {w : World} {base g n c : Nat} {l : List S45} (h : Kd.R k45 45 w base (fun _ => True) (.slice (some ⟨g, 0, none⟩) n c) l) :
 n = l.length ∧ base ≤ g ∧ n ≤ c ∧ c ≤ maxLen ∧ ∃ cur : Array Value, w.heap[g]? = some (.cells cur 45 (0, 0)) ∧ cur.size = c * 3 ∧ cur.toList.take (n * 3) = impl_File_135.flat l := by
 obtain ⟨hn, _, _⟩ := Kd.R_reads' h
 obtain ⟨_, inner, ⟨_, hcase⟩, hr⟩ := h
 rcases hcase with ⟨hv, _⟩ | ⟨g', cap', cur, hv, hb, hh, hnc', hcm, hcs, ht⟩
 ·cases hv
 injection hv with ha _ hc
 injection ha with ha
 injection ha with hg
 subst hg; subst hc
 exact ⟨hn, hb, by omega, hcm, cur, hh, hcs, by rw [hn]; exact ht.trans (impl_File_135.flat_of_reps hr)⟩
theorem impl_File_135.R_of_flat {w : World} {base g n c : Nat} {l : List S45} (hn : n = l.length) (hb : base ≤ g) (hnc : n ≤ c) (hcm : c ≤ maxLen) (cur : Array Value) (hh : w.heap[g]? = some (.cells cur 45 (0, 0))) (hcs : cur.size = c * 3) (ht : cur.toList.take (n * 3) = impl_File_135.flat l) :
 Kd.R k45 45 w base (fun _ => True) (.slice (some ⟨g, 0, none⟩) n c) l := by
 subst hn
 exact ⟨fun _ _ => trivial, impl_File_135.flat l, ⟨by rw [impl_File_135.flat_length]; rfl, .inr ⟨g, c, cur, rfl, hb, hh, hnc, hcm, hcs, ht⟩⟩, impl_File_135.reps_flat _ _ _ _⟩
section
variable {P : Program} {ops : Array Oper} {rest : List Oper} {o : Oper} {a : Act} {Q : Exit → Act → World → Prop}
theorem impl_File_135.append_event {W w1 : World} (hgd : o.guard = none) (s x : Operand) (ats : Array TypeId) (ho : o.op = .call { callee := .builtin .append, args := #[s, x], argTypes := ats }) {u v r : Value} (hs : a.eval s = u) (hx : a.eval x = v)
 (hr : (Builtin.append_ ats o.type #[u, v]).run P W = .ok r w1) (h : wpList P ops Q rest (a.put o.dst r) w1) : wpList P ops Q (o :: rest) a W := by
 refine wpList_plain hgd fun K hK => ?_
 unfold Oper.wp execOp
 simp only [ho, resolve, invoke, builtin, Sem.run_bind, Sem.run_pure, Result.andThen_ok, List.map_toArray, List.map_cons, List.map_nil, hs, hx, hr]
 exact hK _ _ h
theorem impl_File_135.copy_event {W w1 : World} (hgd : o.guard = none) (s x : Operand) (ats : Array TypeId) (ho : o.op = .call { callee := .builtin .copy, args := #[s, x], argTypes := ats }) {u v r : Value} (hs : a.eval s = u) (hx : a.eval x = v)
 (hr : (Builtin.copy_ ats o.type #[u, v]).run P W = .ok r w1) (h : wpList P ops Q rest (a.put o.dst r) w1) : wpList P ops Q (o :: rest) a W := by
 refine wpList_plain hgd fun K hK => ?_
 unfold Oper.wp execOp
 simp only [ho, resolve, invoke, builtin, Sem.run_bind, Sem.run_pure, Result.andThen_ok, List.map_toArray, List.map_cons, List.map_nil, hs, hx, hr]
 exact hK _ _ h
end
set_option maxHeartbeats 4000000 in
set_option maxRecDepth 100000 in
theorem impl_File_135.insert_grow (g base h k : Nat) (l : List S45) (f : S45) (w : World) (hR : Kd.R k45 45 w base (fun _ => True) (.slice (some ⟨g, 0, none⟩) l.length l.length) l) (hC : Kd.C k45 w (some ⟨h, 0, none⟩) 1 [f]) (hk : k < l.length) (hn : l.length ≤ 1099511627776) (hbase : base ≤ w.heap.size) :
 Calls Try.prog 135 #[.slice (some ⟨g, 0, none⟩) l.length l.length, .int .i64 (k : Int), .slice (some ⟨h, 0, none⟩) 1 1] w fun e w' => ∃ v', e = .returned v' ∧ Kd.R k45 45 w' base (fun _ => True) v' (l.take k ++ f :: l.drop k) ∧ w.grownBy w' (some g) := by
 have HR := Aside0.mk hR
 have HC := Aside0.mk hC
 clear hR hC
 have hp0 : (0 : Int) ≤ (k : Int) := by omega
 have hp1 : (k : Int) ≤ (l.length : Int) := by omega
 have hp2 : (l.length : Int) ≤ 9223372036854775806 := by omega
 have hp3 : ¬ (l.length = k) := by omega
 have hp4 : ((k : Int) = (l.length : Int)) = False := by simp; omega
 have hp5 : wrap64 ((l.length : Int) + 1) = (l.length : Int) + 1 := by unfold wrap64; omega
 have hp6 : ¬ (l.length = 0) := by omega
 obtain ⟨_, hbg, _, hcm, cur, hh, hcs, ht⟩ := impl_File_135.R_flat HR.out
 obtain ⟨i0, hi, hzz⟩ := Option.map_eq_some_iff.1 info45
 simp only [Prod.mk.injEq] at hzz
 obtain ⟨hz0, hz1, hz2⟩ := hzz
 have hold : (Builtin.firstCells i0.size k (.slice (some ⟨g, 0, none⟩) k l.length)).run Try.prog w.drew = .ok (impl_File_135.flat (l.take k)).toArray w.drew := by
  have hlk : (impl_File_135.flat (l.take k)).length = k * 3 := by rw [impl_File_135.flat_length, List.length_take]; omega
  have := run_loadCells_list (P := Try.prog) w.drew ⟨g, 0, none⟩ (impl_File_135.flat (l.take k)) (fun j v hj => by
   rw [add_plain, cell_of_row w.drew g _ cur 45 (0, 0) (blk_drew hh)]
   rw [impl_File_135.flat_take, ← ht, List.getElem?_take] at hj
   split at hj
   ·rw [List.getElem?_take] at hj
    split at hj
    ·rw [Array.getElem?_toList] at hj; exact hj
    ·cases hj
   ·cases hj)
  rw [hlk] at this
  simp only [Builtin.firstCells, hz1]
  exact this
 have hbk : w.drew.heap[g]? = some (.cells cur 45 (0, 0)) := blk_drew hh
 obtain ⟨gc, w1, cur1, hgc0, hgc1, hrun, hb1, hs1, ht1, hgr⟩ : ∃ (gc : Nat) (w1 : World) (cur1 : Array Value), l.length + 1 ≤ gc ∧ gc ≤ maxLen ∧ (Builtin.append_ #[28, 3] 28 #[.slice (some ⟨g, 0, none⟩) k l.length, .int .i64 ((l.length + 1 - k : Nat) : Int)]).run Try.prog w = .ok (.slice (some ⟨w.heap.size, 0, none⟩) (l.length + 1) gc) w1 ∧ w1.heap[w.heap.size]? = some (.cells cur1 45 (0, 0)) ∧ cur1.size = gc * 3 ∧ cur1.toList.take (k * 3) = impl_File_135.flat (l.take k) ∧ w.grownBy w1 none := by
  have ek : k + (l.length + 1 - k) = l.length + 1 := by omega
  have hr := Lib.run_append_grow_zeros (P := Try.prog) w 28 3 28 45 i0 _ .i64 .i64 Try.underlying28 Try.underlying3 hi hz0 (some ⟨g, 0, none⟩) k l.length (impl_File_135.flat (l.take k)) hold (l.length + 1 - k) (by omega) (by omega) (by omega) (by omega) (by rw [hz2]; omega) (by
   rw [hz2]
   have := nextslicecap_le (need := k + (l.length + 1 - k)) (old := l.length) (by omega)
   omega)
  rw [ek] at hr
  have hge := grownCap_ge w (l.length + 1) l.length 45
  have hlk : (impl_File_135.flat (l.take k)).length = k * 3 := by rw [impl_File_135.flat_length, List.length_take]; omega
  have hcl : (Value.agg #[.string ⟨#[]⟩, .string ⟨#[]⟩, .int .i64 0] : Value).cells.size = 3 := rfl
  refine ⟨_, _, _, hge, grownCap_le_maxLen w (l.length + 1) l.length 45 (by simp [maxLen]; omega), hr, blk_new w.drew _, ?_, ?_, (let q := World.grownBy_alloc w.drew (.cells _ 45) none; ⟨q.os, q.tape, q.output, q.size, q.block⟩)⟩
  ·simp only [Array.size_append, List.size_toArray, Builtin.zeroCells, Array.size_map, Array.size_range, hlk, hcl]
   omega
  ·simp only [Array.toList_append, List.append_assoc]
   rw [List.take_append_of_le_length (by rw [hlk]; exact Nat.le_refl _), List.take_of_length_le (by rw [hlk]; exact Nat.le_refl _)]
 have hisz : (Try.prog.info? 45).map (·.size) = some 3 := by rw [hi]; simp [hz1]
 have hhC : ∀ j v, (impl_File_135.flat [f])[j]? = some v → w.cell? ((⟨h, 0, none⟩ : Addr).add j) = some v := by
  obtain ⟨ad, e, c0, c1, c2⟩ := at_T45 HC.out 0 (by omega) (by omega)
  cases e
  rw [show ((0 : Int)).toNat * 3 = 0 from rfl, add_plain] at c0 c1 c2
  intro j v hj
  rw [add_plain]
  match j with
  | 0 => injection hj with hj; subst hj; exact c0
  | 1 => injection hj with hj; subst hj; exact c1
  | 2 => injection hj with hj; subst hj; exact c2
  | j + 3 => simp [impl_File_135.flat] at hj
 obtain ⟨w2, cur2, hrun2, hb2, hs2, ht2, hg2⟩ : ∃ (w2 : World) (cur2 : Array Value), (Builtin.copy_ #[28, 28] 3 #[.slice (some ⟨w.heap.size, k * 3, none⟩) (l.length + 1 - k) (gc - k), .slice (some ⟨h, 0, none⟩) 1 1]).run Try.prog w1 = .ok (goInt (1 : Nat)) w2 ∧ w2.heap[w.heap.size]? = some (.cells cur2 45 (0, 0)) ∧ cur2.size = gc * 3 ∧ cur2.toList.take ((k + 1) * 3) = impl_File_135.flat (l.take k ++ [f]) ∧ w1.grownBy w2 (some w.heap.size) := by
  have hlen : (impl_File_135.flat [f]).length = 3 := rfl
  have hr := impl_File_135.run_copy_rows (P := Try.prog) w1 28 28 3 45 w.heap.size (k * 3) (l.length + 1 - k) (gc - k) ⟨h, 0, none⟩ 1 1 cur1 45 (impl_File_135.flat [f]) 3 1 Try.underlying28 hisz hb1 (by rw [show Nat.min 1 (l.length + 1 - k) = min 1 (l.length + 1 - k) from rfl]; omega) hlen (fun j v hj => by
   have hc := hhC j v hj
   have hlt := World.block_lt_of_cell? w _ hc
   rw [add_plain] at hc hlt ⊢
   exact (World.cell?_of_block (hgr.block h hlt (by simp))).trans hc) (by rw [hlen, hs1]; omega) (impl_File_135.flat_one _)
  refine ⟨_, _, hr, setRow_heap w1 _ _ _ 45 _ hb1, ?_, ?_, ⟨rfl, rfl, rfl, by simp [World.setRow], fun j _ hj => setRow_other w1 _ j _ (fun e => hj (by rw [e]))⟩⟩
  ·have : cur1.toList.length = gc * 3 := by rw [Array.length_toList, hs1]
   simp only [List.size_toArray, List.length_append, List.length_take, List.length_drop, hlen, this]
   omega
  ·have h1 : (cur1.toList.take (k * 3)).length = k * 3 := by rw [List.length_take, Array.length_toList, hs1]; omega
   rw [impl_File_135.flat_append, ← ht1, List.append_assoc, ← List.append_assoc, List.take_append_of_le_length (by rw [List.length_append, h1, hlen]; omega), List.take_of_length_le (by rw [List.length_append, h1, hlen]; omega)]
 have hglt : g < w.heap.size := blk_lt hh
 have hg2cell : w2.heap[g]? = some (.cells cur 45 (0, 0)) := (hg2.block g (Nat.lt_of_lt_of_le hglt hgr.size) (fun e => by injection e; omega)).trans ((hgr.block g hglt (by simp)).trans hh)
 obtain ⟨w3, cur3, hrun3, hb3, hs3, ht3, hg3⟩ : ∃ (w3 : World) (cur3 : Array Value), (Builtin.copy_ #[28, 28] 3 #[.slice (some ⟨w.heap.size, (k + 1) * 3, none⟩) (l.length + 1 - (k + 1)) (gc - (k + 1)), .slice (some ⟨g, k * 3, none⟩) (l.length - k) (l.length - k)]).run Try.prog w2.drew = .ok (goInt ((l.length - k : Nat) : Int)) w3 ∧ w3.heap[w.heap.size]? = some (.cells cur3 45 (0, 0)) ∧ cur3.size = gc * 3 ∧ cur3.toList.take ((l.length + 1) * 3) = impl_File_135.flat (l.take k ++ f :: l.drop k) ∧ w2.grownBy w3 (some w.heap.size) := by
  have hlen : (impl_File_135.flat (l.drop k)).length = (l.length - k) * 3 := by rw [impl_File_135.flat_length, List.length_drop]
  have hr := impl_File_135.run_copy_rows (P := Try.prog) w2.drew 28 28 3 45 w.heap.size ((k + 1) * 3) (l.length + 1 - (k + 1)) (gc - (k + 1)) ⟨g, k * 3, none⟩ (l.length - k) (l.length - k) cur2 45 (impl_File_135.flat (l.drop k)) 3 (l.length - k) Try.underlying28 hisz (blk_drew hb2) (by rw [show Nat.min (l.length - k) (l.length + 1 - (k + 1)) = min (l.length - k) (l.length + 1 - (k + 1)) from rfl]; omega) hlen (fun j v hj => by
   rw [show ((⟨g, k * 3, none⟩ : Addr).add j) = ⟨g, k * 3 + j, none⟩ by unfold Addr.add; split <;> simp_all]
   rw [cell_of_row w2.drew g _ cur 45 (0, 0) (blk_drew hg2cell)]
   rw [impl_File_135.flat_drop, ← ht, List.getElem?_drop, List.getElem?_take] at hj
   split at hj
   ·rw [Array.getElem?_toList] at hj; exact hj
   ·cases hj) (by rw [hlen, hs2]; omega) (impl_File_135.flat_one _)
  refine ⟨_, _, hr, setRow_heap w2.drew _ _ _ 45 _ (blk_drew hb2), ?_, ?_, ⟨rfl, rfl, rfl, by simp [World.setRow], fun j _ hj => setRow_other w2.drew _ j _ (fun e => hj (by rw [e]))⟩⟩
  ·have : cur2.toList.length = gc * 3 := by rw [Array.length_toList, hs2]
   simp only [List.size_toArray, List.length_append, List.length_take, List.length_drop, hlen, this]
   omega
  ·have h1 : (cur2.toList.take ((k + 1) * 3)).length = (k + 1) * 3 := by rw [List.length_take, Array.length_toList, hs2]; omega
   rw [show l.take k ++ f :: l.drop k = (l.take k ++ [f]) ++ l.drop k by simp, impl_File_135.flat_append, ← ht2, List.append_assoc, ← List.append_assoc, List.take_append_of_le_length (by rw [List.length_append, h1, hlen]; omega), List.take_of_length_le (by rw [List.length_append, h1, hlen]; omega)]
 have HRun := Aside0.mk hrun
 have HH := Aside0.mk hh
 have HT := Aside0.mk ht
 have HM := Aside0.mk (⟨hbg, hcm, hcs⟩ : base ≤ g ∧ l.length ≤ maxLen ∧ cur.size = l.length * 3)
 have HB1 := Aside0.mk hb1
 have HT1 := Aside0.mk ht1
 have HS1 := Aside0.mk hs1
 have HG1 := Aside0.mk hgr
 have HRun2 := Aside0.mk hrun2
 have HRun3 := Aside0.mk hrun3
 have HF := Aside0.mk (show Kd.R k45 45 w3 base (fun _ => True) (.slice (some ⟨w.heap.size, 0, none⟩) (l.length + 1) gc) (l.take k ++ f :: l.drop k) from impl_File_135.R_of_flat (by simp; omega) hbase hgc0 hgc1 cur3 hb3 hs3 ht3)
 have HGG := Aside0.mk (show w.grownBy w3 (some g) from ⟨hg3.os.trans (hg2.os.trans hgr.os), hg3.tape.trans (hg2.tape.trans hgr.tape), hg3.output.trans (hg2.output.trans hgr.output), Nat.le_trans hgr.size (Nat.le_trans hg2.size hg3.size), fun j hj hr => (hg3.block j (Nat.lt_of_lt_of_le hj (Nat.le_trans hgr.size hg2.size)) (fun e => by injection e; omega)).trans ((hg2.block j (Nat.lt_of_lt_of_le hj hgr.size) (fun e => by injection e; omega)).trans (hgr.block j hj (by simp)))⟩)
 have E39 := Aside0.mk (show ((l.length : Int) + 1 - (k : Int)) = ((l.length + 1 - k : Nat) : Int) by omega)
 have hq1 : ¬ (gc = k) := by omega
 have hq2 : ¬ (gc = k + 1) := by omega
 clear hh ht hbg hcm hcs hold hi hz0 hz1 hz2 hrun hb1 hs1 ht1 hgr hbk hisz hhC hrun2 hb2 hs2 ht2 hg2 hglt hg2cell hrun3 hb3 hs3 ht3 hg3
 go_enter Try.func135, Try.ntmps135
 go_wp2_with (first | ((with_reducible refine gate_builtin (b := .append) (xs := #[.tmp 34, .tmp 39]) rfl ?_); at_builtin; refine impl_File_135.append_event rfl (.tmp 34) (.tmp 39) #[28, 3] rfl rfl (congrArg (Value.int .i64) E39.out) HRun.out ?_))
 rw [HRun2.out]
 simp only [Result.andThen]
 rw [Oper.upon_value]
 have hq3 : (0 : Int) ≤ (k : Int) + 1 := by omega
 have hq4 : (k : Int) + 1 ≤ (l.length : Int) + 1 := by omega
 have hq6 : IntKind.i64.wrap ((k : Int) + 1) = (k : Int) + 1 := by rw [IntKind.wrap_i64]; omega
 have hq5 : ((l.length + 1 : Nat) : Int) = (l.length : Int) + 1 := by omega
 go_wp2
 go_still_tail 8, (by kernel_rfl)
 refine impl_File_135.copy_event (w1 := w3) (r := goInt ((l.length - k : Nat) : Int)) rfl (.tmp 50) (.tmp 53) #[28, 28] rfl rfl rfl (by first | exact HRun3.out | (have h_ := HRun3.out; simp only [Nat.add_sub_add_right] at h_; exact h_)) ?_
 go_wp2
 go_ret
 exact ⟨_, rfl, HF.out, HGG.out⟩
set_option maxHeartbeats 4000000 in
set_option maxRecDepth 100000 in
theorem impl_File_135.insert_end (A : Option Addr) (c base h : Nat) (l : List S45) (f : S45) (w : World) (hR : Kd.R k45 45 w base (fun _ => True) (.slice A l.length c) l) (hC : Kd.C k45 w (some ⟨h, 0, none⟩) 1 [f]) (hn : l.length ≤ 1099511627776) (hbase : base ≤ w.heap.size) :
 Calls Try.prog 135 #[.slice A l.length c, .int .i64 (l.length : Int), .slice (some ⟨h, 0, none⟩) 1 1] w fun e w' => ∃ v', e = .returned v' ∧ Kd.R k45 45 w' base (fun _ => True) v' (l ++ [f]) ∧ w.grownBy w' (Value.slice A l.length c).ownBlock := by
 have hnc : l.length ≤ c := (Kd.R_reads' hR).2.1
 have HR := Aside0.mk hR
 have HC := Aside0.mk hC
 clear hR hC
 have hBr := Aside0.mk (Below.refl base w)
 have hp0 : (0 : Int) ≤ (l.length : Int) := by omega
 have hp1 : (l.length : Int) ≤ (c : Int) := by omega
 have hcm : (l.length : Int) ≤ 9223372036854775807 := by omega
 by_cases hck : c = l.length
 ·subst hck
  go_enter Try.func135, Try.ntmps135
  go_wp2_with (first | ((with_reducible refine gate_builtin (b := .append) (xs := #[.tmp 23, .tmp 24]) rfl ?_); at_builtin; refine Kd.R_append_rows k45 (w0 := w) base rfl (.tmp 23) (.tmp 24) 28 45 _ _ rfl Try.underlying28 info45 rfl (by decide) (by omega) (.slice A l.length l.length) l [f] _ _ _ (fun _ => True) (fun _ => False) rfl rfl ?aO1 ?aR1 (fun _ _ h => h) (fun _ h => h.elim) (fun _ _ => trivial) hBr.out hbase (by omega) ?_; (case aO1 => exact HR.out); (case aR1 => exact HC.out); intro v7 w6 ho hb hg hat; have HO2 := Aside0.mk ho; have HG2 := Aside0.mk hg; clear ho hat hb hg))
  go_ret
  exact ⟨_, rfl, HO2.out, HG2.out⟩
 ·obtain ⟨g, rfl⟩ : ∃ g, A = some ⟨g, 0, none⟩ := by
   obtain ⟨_, _, ⟨_, hcase⟩, _⟩ := HR.out
   rcases hcase with ⟨hv, _⟩ | ⟨g', cap', cur, hv, _⟩
   ·injection hv with h1 h2 h3
    omega
   ·injection hv with h1 h2 h3
    exact ⟨g', h1⟩
  have hck1 : ¬ (l.length = c) := fun e => hck e.symm
  have hck2 : ¬ (c - l.length = 0) := by omega
  go_enter Try.func135, Try.ntmps135
  go_wp2_with (first | ((with_reducible refine gate_builtin (b := .append) (xs := #[.tmp 23, .tmp 24]) rfl ?_); at_builtin; refine Kd.R_append_rows k45 (w0 := w) base rfl (.tmp 23) (.tmp 24) 28 45 _ _ rfl Try.underlying28 info45 rfl (by decide) (by omega) (.slice (some ⟨g, 0, none⟩) l.length c) l [f] _ _ _ (fun _ => True) (fun _ => False) rfl rfl ?aO ?aR (fun _ _ h => h) (fun _ h => h.elim) (fun _ _ => trivial) hBr.out hbase (by omega) ?_; (case aO => exact HR.out); (case aR => exact HC.out); intro v7 w6 ho hb hg hat; have HO2 := Aside0.mk ho; have HG2 := Aside0.mk hg; clear ho hat hb hg))
  go_ret
  exact ⟨_, rfl, HO2.out, HG2.out⟩

theorem impl_File_135.C_of_flat {w : World} {h : Nat} {f : S45} {cu : Array Value} {t : TypeId} (hh : w.heap[h]? = some (.cells cu t (0, 0))) (hc : cu.toList = impl_File_135.flat [f]) : Kd.C k45 w (some ⟨h, 0, none⟩) 1 [f] := by
 refine ⟨rfl, by omega, fun _ => ⟨⟨h, 0, none⟩, rfl, fun j p hp => ?_⟩⟩
 match j with
 | 0 =>
  injection hp with hp
  subst hp
  refine ⟨impl_File_135.flat [f], rfl, k45_mk w f, fun i u hu => ?_⟩
  rw [add_plain, cell_of_row w h _ cu t (0, 0) hh, ← Array.getElem?_toList, hc]
  simpa using hu
 | j + 1 => simp at hp
set_option maxHeartbeats 4000000 in
set_option maxRecDepth 100000 in
theorem impl_File_135.insert_in (g base h k c : Nat) (l : List S45) (f : S45) (w : World) (hR : Kd.R k45 45 w base (fun _ => True) (.slice (some ⟨g, 0, none⟩) l.length c) l) (cu : Array Value) (tu : TypeId) (hhu : w.heap[h]? = some (.cells cu tu (0, 0))) (hcu : cu.toList = impl_File_135.flat [f]) (hgh : h ≠ g) (hk : k < l.length) (hlc : l.length < c) (hn : l.length ≤ 1099511627776) (hbase : base ≤ w.heap.size) :
 Calls Try.prog 135 #[.slice (some ⟨g, 0, none⟩) l.length c, .int .i64 (k : Int), .slice (some ⟨h, 0, none⟩) 1 1] w fun e w' => ∃ v', e = .returned v' ∧ Kd.R k45 45 w' base (fun _ => True) v' (l.take k ++ f :: l.drop k) ∧ w.grownBy w' (some g) := by
 have HR := Aside0.mk hR
 clear hR
 obtain ⟨_, hbg, _, hcm, cur, hh, hcs, ht⟩ := impl_File_135.R_flat HR.out
 obtain ⟨i0, hi, hzz⟩ := Option.map_eq_some_iff.1 info45
 simp only [Prod.mk.injEq] at hzz
 obtain ⟨hz0, hz1, hz2⟩ := hzz
 have hisz : (Try.prog.info? 45).map (·.size) = some 3 := by rw [hi]; simp [hz1]
 have hov : ∀ lb cb, (callFunc 141 #[.slice (some ⟨h, 0, none⟩) 1 1, .slice (some ⟨g, (k + 1) * 3, none⟩) lb cb]).run Try.prog w = .ok (.value (.bool false)) w := fun lb cb => by
  rw [run_callFunc_extern Try.func141 (by kernel_rfl) (by kernel_rfl) (by kernel_rfl) (e := Extern.SlicesOverlaps.overlaps #[28, 28] #[4]) (by kernel_rfl),
   Lib.run_overlaps_apart w 28 4 45 Try.underlying28 3 (fun W => by simp [sizeOf, typeInfo, hi, hz1]) ⟨h, 0, none⟩ ⟨g, (k + 1) * 3, none⟩ 1 1 lb cb hgh tu 45 cu.size cur.size (by simp [World.shape?, hhu]) (by simp [World.shape?, hh]) (by omega) (blk_frozen hhu 0) (blk_frozen hhu _)]
  rfl
 have hbk : w.drew.heap[g]? = some (.cells cur 45 (0, 0)) := blk_drew hh
 obtain ⟨w1, cur1, hrun1, hb1, hs1, ht1, ht1', hg1⟩ : ∃ (w1 : World) (cur1 : Array Value), (Builtin.copy_ #[28, 28] 3 #[.slice (some ⟨g, (k + 1) * 3, none⟩) (l.length + 1 - (k + 1)) (c - (k + 1)), .slice (some ⟨g, k * 3, none⟩) (l.length + 1 - k) (c - k)]).run Try.prog w.drew = .ok (goInt ((l.length - k : Nat) : Int)) w1 ∧ w1.heap[g]? = some (.cells cur1 45 (0, 0)) ∧ cur1.size = c * 3 ∧ cur1.toList.take (k * 3) = impl_File_135.flat (l.take k) ∧ (cur1.toList.drop ((k + 1) * 3)).take ((l.length - k) * 3) = impl_File_135.flat (l.drop k) ∧ w.drew.grownBy w1 (some g) := by
  have hlen : (impl_File_135.flat (l.drop k)).length = (l.length - k) * 3 := by rw [impl_File_135.flat_length, List.length_drop]
  have hcl : cur.toList.length = c * 3 := by rw [Array.length_toList, hcs]
  have hr := impl_File_135.run_copy_rows (P := Try.prog) w.drew 28 28 3 45 g ((k + 1) * 3) (l.length + 1 - (k + 1)) (c - (k + 1)) ⟨g, k * 3, none⟩ (l.length + 1 - k) (c - k) cur 45 (impl_File_135.flat (l.drop k)) 3 (l.length - k) Try.underlying28 hisz hbk (by rw [show Nat.min (l.length + 1 - k) (l.length + 1 - (k + 1)) = min (l.length + 1 - k) (l.length + 1 - (k + 1)) from rfl]; omega) hlen (fun j v hj => by
   rw [show ((⟨g, k * 3, none⟩ : Addr).add j) = ⟨g, k * 3 + j, none⟩ by unfold Addr.add; split <;> simp_all]
   rw [cell_of_row w.drew g _ cur 45 (0, 0) hbk]
   rw [impl_File_135.flat_drop, ← ht, List.getElem?_drop, List.getElem?_take] at hj
   split at hj
   ·rw [Array.getElem?_toList] at hj; exact hj
   ·cases hj) (by rw [hlen, hcs]; omega) (impl_File_135.flat_one _)
  refine ⟨_, _, hr, setRow_heap w.drew _ _ _ 45 _ hbk, ?_, ?_, ?_, ⟨rfl, rfl, rfl, by simp [World.setRow], fun j _ hj => setRow_other w.drew _ j _ (fun e => hj (by rw [e]))⟩⟩
  ·simp only [List.size_toArray, List.length_append, List.length_take, List.length_drop, hlen, hcl]
   omega
  ·rw [impl_File_135.flat_take, ← ht, List.take_take, Nat.min_eq_left (by omega)]
   simp only [List.append_assoc]
   rw [List.take_append_of_le_length (by rw [List.length_take, hcl]; omega), List.take_take, Nat.min_eq_left (by omega)]
  ·simp only [List.append_assoc]
   have h1 : (cur.toList.take ((k + 1) * 3)).length = (k + 1) * 3 := by rw [List.length_take, hcl]; omega
   rw [List.drop_append_of_le_length (by rw [h1]; exact Nat.le_refl _), List.drop_of_length_le (by rw [h1]; exact Nat.le_refl _), List.nil_append, ← hlen, List.take_append_of_le_length (Nat.le_refl _), List.take_of_length_le (Nat.le_refl _)]
 obtain ⟨w2, cur2, hrun2, hb2, hs2, ht2, hg2⟩ : ∃ (w2 : World) (cur2 : Array Value), (Builtin.copy_ #[28, 28] 3 #[.slice (some ⟨g, k * 3, none⟩) (l.length + 1 - k) (c - k), .slice (some ⟨h, 0, none⟩) 1 1]).run Try.prog w1 = .ok (goInt (1 : Nat)) w2 ∧ w2.heap[g]? = some (.cells cur2 45 (0, 0)) ∧ cur2.size = c * 3 ∧ cur2.toList.take ((l.length + 1) * 3) = impl_File_135.flat (l.take k ++ f :: l.drop k) ∧ w1.grownBy w2 (some g) := by
  have hlen : (impl_File_135.flat [f]).length = 3 := rfl
  have hcl : cur1.toList.length = c * 3 := by rw [Array.length_toList, hs1]
  have hh1 : w1.heap[h]? = some (.cells cu tu (0, 0)) := (hg1.block h (blk_lt hhu) (fun e => hgh (by injection e))).trans hhu
  have hr := impl_File_135.run_copy_rows (P := Try.prog) w1 28 28 3 45 g (k * 3) (l.length + 1 - k) (c - k) ⟨h, 0, none⟩ 1 1 cur1 45 (impl_File_135.flat [f]) 3 1 Try.underlying28 hisz hb1 (by rw [show Nat.min 1 (l.length + 1 - k) = min 1 (l.length + 1 - k) from rfl]; omega) hlen (fun j v hj => by
   rw [add_plain, cell_of_row w1 h _ cu tu (0, 0) hh1, ← Array.getElem?_toList, hcu]
   simpa using hj) (by rw [hlen, hs1]; omega) (impl_File_135.flat_one _)
  refine ⟨_, _, hr, setRow_heap w1 _ _ _ 45 _ hb1, ?_, ?_, ⟨rfl, rfl, rfl, by simp [World.setRow], fun j _ hj => setRow_other w1 _ j _ (fun e => hj (by rw [e]))⟩⟩
  ·simp only [List.size_toArray, List.length_append, List.length_take, List.length_drop, hlen, hcl]
   omega
  ·have h1 : (cur1.toList.take (k * 3)).length = k * 3 := by rw [List.length_take, hcl]; omega
   have h2 : (impl_File_135.flat (l.take k)).length = k * 3 := by rw [impl_File_135.flat_length, List.length_take]; omega
   rw [show l.take k ++ f :: l.drop k = (l.take k ++ [f]) ++ l.drop k by simp, impl_File_135.flat_append, impl_File_135.flat_append, ← ht1', ← ht1, hlen, show k * 3 + 3 = (k + 1) * 3 by omega]
   have h3 : (cur1.toList.take (k * 3) ++ impl_File_135.flat [f]).length = (k + 1) * 3 := by rw [List.length_append, h1, hlen]; omega
   rw [List.take_append, h3, List.take_of_length_le (by rw [h3]; omega), show (l.length + 1) * 3 - (k + 1) * 3 = (l.length - k) * 3 by omega]
 have HRun1 := Aside0.mk hrun1
 have HRun2 := Aside0.mk hrun2
 have HF := Aside0.mk (show Kd.R k45 45 w2 base (fun _ => True) (.slice (some ⟨g, 0, none⟩) (l.length + 1) c) (l.take k ++ f :: l.drop k) from impl_File_135.R_of_flat (by simp; omega) hbg (by omega) hcm cur2 hb2 hs2 ht2)
 have HGG := Aside0.mk (show w.grownBy w2 (some g) from ⟨hg2.os.trans hg1.os, hg2.tape.trans hg1.tape, hg2.output.trans hg1.output, Nat.le_trans hg1.size hg2.size, fun j hj hr => (hg2.block j (Nat.lt_of_lt_of_le hj hg1.size) hr).trans (hg1.block j hj hr)⟩)
 have hcm2 : c ≤ 9223372036854775807 := by simpa [maxLen] using hcm
 clear hh ht hcm hcs hi hz0 hz1 hz2 hbk hisz hrun1 hb1 hs1 ht1 ht1' hg1 hrun2 hb2 hs2 ht2 hg2 hcu hhu
 have hp0 : (0 : Int) ≤ (k : Int) := by omega
 have hp1 : (k : Int) ≤ (l.length : Int) := by omega
 have hp2 : (l.length : Int) ≤ (c : Int) := by omega
 have hp3 : ¬ (c = k) := by omega
 have hp4 : ((k : Int) = (l.length : Int)) = False := by simp; omega
 have hp5 : wrap64 ((l.length : Int) + 1) = (l.length : Int) + 1 := by unfold wrap64; omega
 have hp5' : IntKind.i64.wrap ((l.length : Int) + 1) = (l.length : Int) + 1 := by rw [IntKind.wrap_i64]; omega
 have hp6 : ¬ ((l.length : Int) + 1 > (c : Int)) := by omega
 have hp7 : (l.length : Int) + 1 ≤ (c : Int) := by omega
 have hp8 : ¬ (c = k + 1) := by omega
 have hp9 : wrap64 ((k : Int) + 1) = (k : Int) + 1 := by unfold wrap64; omega
 have hp9' : IntKind.i64.wrap ((k : Int) + 1) = (k : Int) + 1 := by rw [IntKind.wrap_i64]; omega
 have hpA : (0 : Int) ≤ (k : Int) + 1 := by omega
 have hpB : (k : Int) + 1 ≤ (l.length : Int) + 1 := by omega
 have hpC : (k : Int) ≤ (l.length : Int) + 1 := by omega
 have hpD : ((l.length + 1 : Nat) : Int) = (l.length : Int) + 1 := by omega
 have hpE : (0 : Int) ≤ (l.length : Int) + 1 := by omega
 go_enter Try.func135, Try.ntmps135
 go_wp2_with (simp only [hov])
 go_still_tail 8, (by kernel_rfl)
 refine impl_File_135.copy_event (w1 := w1) (r := goInt ((l.length - k : Nat) : Int)) rfl (.tmp 73) (.tmp 76) #[28, 28] rfl rfl rfl (by first | exact HRun1.out | (have h_ := HRun1.out; simp only [Nat.add_sub_add_right] at h_ ⊢; exact h_)) ?_
 go_wp2
 rw [HRun2.out]
 simp only [Result.andThen]
 rw [Oper.upon_value]
 go_wp2
 go_ret
 exact ⟨_, rfl, HF.out, HGG.out⟩
set_option maxHeartbeats 1000000 in
/-- slices.Insert of one file. -/
theorem impl_File_135.calls (A : Option Addr) (c base h k : Nat) (l : List S45) (f : S45) (w : World) (hR : Kd.R k45 45 w base (fun _ => True) (.slice A l.length c) l) (cu : Array Value) (tu : TypeId) (hhu : w.heap[h]? = some (.cells cu tu (0, 0))) (hcu : cu.toList = impl_File_135.flat [f]) (hgh : some h ≠ (Value.slice A l.length c).ownBlock) (hk : k ≤ l.length) (hn : l.length ≤ 1099511627776) (hbase : base ≤ w.heap.size) :
 Calls Try.prog 135 #[.slice A l.length c, .int .i64 (k : Int), .slice (some ⟨h, 0, none⟩) 1 1] w fun e w' => ∃ v', e = .returned v' ∧ Kd.R k45 45 w' base (fun _ => True) v' (l.take k ++ f :: l.drop k) ∧ w.grownBy w' (Value.slice A l.length c).ownBlock := by
 by_cases hkl : k = l.length
 ·subst hkl
  rw [List.take_length, List.drop_length]
  exact impl_File_135.insert_end A c base h l f w hR (impl_File_135.C_of_flat hhu hcu) hn hbase
 ·have hnc : l.length ≤ c := (Kd.R_reads' hR).2.1
  obtain ⟨g, rfl⟩ : ∃ g, A = some ⟨g, 0, none⟩ := by
   obtain ⟨_, _, ⟨_, hcase⟩, _⟩ := hR
   rcases hcase with ⟨hv, _⟩ | ⟨g', cap', cur, hv, _⟩
   ·injection hv with h1 h2 h3
    omega
   ·injection hv with h1 h2 h3
    exact ⟨g', h1⟩
  have hob : (Value.slice (some ⟨g, 0, none⟩) l.length c).ownBlock = some g := by simp only [Value.ownBlock]
  rw [hob] at hgh ⊢
  by_cases hcl : c = l.length
  ·subst hcl
   exact impl_File_135.insert_grow g base h k l f w hR (impl_File_135.C_of_flat hhu hcu) (by omega) hn hbase
  ·exact impl_File_135.insert_in g base h k c l f w hR cu tu hhu hcu (fun e => hgh (by rw [e])) (by omega) (by omega) hn hbase

/-! ### impl_Disk_put: function 121 (given by the session) -/
def impl_Disk_put.putL (f : S45) (l : List S45) : List S45 := if impl_Disk_place.has f.f0 l = true then l.set (impl_Disk_place.idx f.f0 l) f else l.take (impl_Disk_place.idx f.f0 l) ++ f :: l.drop (impl_Disk_place.idx f.f0 l)
structure impl_Disk_put.FrS (w w' : World) (S : Nat → Prop) : Prop where
 rest : Below 0 w w'
 block : ∀ k, k < w.heap.size → ¬ S k → w'.heap[k]? = w.heap[k]?
theorem impl_Disk_put.FrS.below {w w' : World} {S : Nat → Prop} {base : Nat} (h : impl_Disk_put.FrS w w' S) (hS : ∀ k, S k → base ≤ k) (hb : base ≤ w.heap.size) : Below base w w' :=
 ⟨h.rest.os, h.rest.tape, h.rest.output, h.rest.size, fun k hk => h.block k (by omega) (fun hs => by have := hS k hs; omega)⟩
theorem impl_Disk_put.FrS.trans {w w1 w2 : World} {S T : Nat → Prop} (h : impl_Disk_put.FrS w w1 S) (k : impl_Disk_put.FrS w1 w2 T) (ht : ∀ j, j < w.heap.size → T j → S j) : impl_Disk_put.FrS w w2 S :=
 ⟨h.rest.trans k.rest, fun j hj hs => (k.block j (Nat.lt_of_lt_of_le hj h.rest.size) (fun hT => hs (ht j hj hT))).trans (h.block j hj hs)⟩
theorem impl_Disk_put.FrS.ofBelow {w w' : World} {S : Nat → Prop} (h : Below w.heap.size w w') : impl_Disk_put.FrS w w' S := ⟨h.mono (Nat.zero_le _), fun k hk _ => h.block k hk⟩
theorem impl_Disk_put.FrS.ofGrown {w w' : World} {S : Nat → Prop} {r : Option Nat} (h : w.grownBy w' r) (hr : ∀ k, r = some k → S k) : impl_Disk_put.FrS w w' S := ⟨⟨h.os, h.tape, h.output, h.size, fun _ hk => absurd hk (Nat.not_lt_zero _)⟩, fun k hk hs => h.block k hk (fun e => hs (hr k e.symm))⟩
theorem impl_Disk_put.FrS.mono {w w' : World} {S T : Nat → Prop} (h : impl_Disk_put.FrS w w' S) (hst : ∀ k, k < w.heap.size → S k → T k) : impl_Disk_put.FrS w w' T := ⟨h.rest, fun k hk ht => h.block k hk (fun hs => ht (hst k hk hs))⟩
theorem impl_Disk_put.FrS.setCell {w w' : World} {S : Nat → Prop} (h : impl_Disk_put.FrS w w' S) {g j : Nat} (hg : S g) (u : Value) : impl_Disk_put.FrS w (w'.setCell ⟨g, j, none⟩ u) S :=
 ⟨h.rest.setCell (Nat.zero_le _) u, fun k hk hs => (Below.heap_setCell w' ⟨g, j, none⟩ u k (fun e => hs (by rw [e]; exact hg))).trans (h.block k hk hs)⟩
theorem impl_Disk_put.set_flat {cur cur3 : Array Value} {c i : Nat} {l : List S45} {f : S45} (hi : i < l.length) (hcs : cur.size = c * 3) (hnc : l.length ≤ c) (ht : cur.toList.take (l.length * 3) = impl_File_135.flat l) (h3 : cur3.toList = cur.toList.take (i * 3) ++ impl_File_135.flat [f] ++ cur.toList.drop (i * 3 + (impl_File_135.flat [f]).length)) :
 cur3.size = c * 3 ∧ cur3.toList.take (l.length * 3) = impl_File_135.flat (l.set i f) := by
 have hlen : (impl_File_135.flat [f]).length = 3 := rfl
 have hcl : cur.toList.length = c * 3 := by rw [Array.length_toList, hcs]
 rw [hlen] at h3
 have h1 : (cur.toList.take (i * 3)).length = i * 3 := by rw [List.length_take, hcl]; omega
 refine ⟨?_, ?_⟩
 ·rw [← Array.length_toList, h3]
  simp only [List.length_append, List.length_drop, h1, hlen, hcl]
  omega
 ·rw [List.set_eq_take_append_cons_drop, if_pos hi, show l.take i ++ f :: l.drop (i + 1) = (l.take i ++ [f]) ++ l.drop (i + 1) by simp, impl_File_135.flat_append, impl_File_135.flat_append, impl_File_135.flat_take, impl_File_135.flat_drop, ← ht, List.take_take, Nat.min_eq_left (by omega), h3]
  have h2 : (cur.toList.take (i * 3) ++ impl_File_135.flat [f]).length = (i + 1) * 3 := by rw [List.length_append, h1, hlen]; omega
  rw [List.take_append, h2, List.take_of_length_le (by rw [h2]; omega), List.drop_take, show i * 3 + 3 = (i + 1) * 3 by omega]
set_option maxHeartbeats 4000000 in
set_option maxRecDepth 100000 in
theorem impl_Disk_put.calls (gb base : Nat) (A : Option Addr) (c : Nat) (l : List S45) (f : S45) (w : World) (hR : Kd.R k45 45 w base (fun _ => True) (.slice A l.length c) l) (hb : w.heap[gb]? = some (.cells #[.slice A l.length c] 30 (0, 0))) (hl : l.length ≤ 1099511627776) (hbw : base ≤ w.heap.size) :
 Calls Try.prog 121 #[.pointer (some ⟨gb, 0, none⟩), .agg #[.string f.f0, .string f.f1, .int .i64 f.f2]] w fun e w' => e = .returned (.tuple #[]) ∧ ∃ v', w'.heap[gb]? = some (.cells #[v'] 30 (0, 0)) ∧ Kd.R k45 45 w' base (fun _ => True) v' (impl_Disk_put.putL f l) ∧ impl_Disk_put.FrS w w' (fun k => k = gb ∨ some k = (Value.slice A l.length c).ownBlock) := by
 have HR := Aside0.mk hR
 have BK := Aside0.mk hb
 have HBW := Aside0.mk hbw
 have HOLD : Aside0 (∀ g, (Value.slice A l.length c).ownBlock = some g → g < w.heap.size) := ⟨fun g hg => by
  obtain ⟨cells, hcells⟩ := Kd.R_typed hR g hg
  exact blk_lt hcells⟩
 clear hR hb hbw
 obtain ⟨n0, t, kk⟩ := f
 go_enter Try.func121, Try.ntmps121
 go_wp2_with (first | ((with_reducible refine gate_dst (N := 3) rfl ?_); refine bxE 3 #[.string n0, .string t, .int .i64 kk] 45 ?_; intro gf hg_ w1 hbox_ hb_; have H1 := Aside0.mk hb_; have BF := Aside0.mk hbox_; have GF := Aside0.mk hg_; clear hb_ hbox_ hg_; have BK1 := Aside0.mk (blk_below BK.out H1.out); have HR1 := Aside0.mk (Kd.R_below HR.out H1.out); have hcf0 := czA BF.out 0 (.string n0); have hcf1 := czA BF.out 1 (.string t); have hcf2 := czA BF.out 2 (.int .i64 kk)))
 go_at_call 120
 refine (impl_Disk_place.calls gb A c l n0 w1 (Kd.R_reads' HR1.out).2.2 BK1.out hl).mono ?_
 rintro e w2 ⟨rfl, hd_⟩
 obtain ⟨nd, hnd⟩ := hd_.out
 have BF2 := Aside0.mk (show w2.heap[gf]? = some (.cells #[.string n0, .string t, .int .i64 kk] 45 (0, 0)) by rw [hnd]; exact blk_drewN BF.out nd)
 have BK2 := Aside0.mk (show w2.heap[gb]? = some (.cells #[.slice A l.length c] 30 (0, 0)) by rw [hnd]; exact blk_drewN BK1.out nd)
 have HR2 := Aside0.mk (show Kd.R k45 45 w2 base (fun _ => True) (.slice A l.length c) l by rw [hnd]; exact Kd.R_drewN HR1.out nd)
 have H2 := Aside0.mk (show Below w.heap.size w w2 by rw [hnd]; exact pw_below_drewN H1.out nd)
 clear hnd hcf0 hcf1 hcf2 hd_
 have hcf0 := czA BF2.out 0 (.string n0)
 have hcf1 := czA BF2.out 1 (.string t)
 have hcf2 := czA BF2.out 2 (.int .i64 kk)
 have hcz0 := czA BK2.out 0 (.slice A l.length c)
 have hfz0 := blk_frozen BK2.out 0
 have HI := Aside0.mk (impl_Disk_place.idx_le n0 l)
 by_cases hh : impl_Disk_place.has n0 l = true
 ·have HP := Aside0.mk (show impl_Disk_put.putL ⟨n0, t, kk⟩ l = l.set (impl_Disk_place.idx n0 l) ⟨n0, t, kk⟩ by simp [impl_Disk_put.putL, hh])
  have hil : impl_Disk_place.idx n0 l < l.length := by
   rw [impl_Disk_place.has, Bool.and_eq_true] at hh
   exact of_decide_eq_true hh.1
  rw [hh]
  generalize impl_Disk_place.idx n0 l = i at HI HP hil ⊢
  clear hh
  obtain ⟨g, rfl⟩ : ∃ g, A = some ⟨g, 0, none⟩ := by
   obtain ⟨_, _, ⟨_, hcase⟩, _⟩ := HR2.out
   rcases hcase with ⟨hv, _⟩ | ⟨g', cap', cur, hv, _⟩
   ·injection hv with h1 h2 h3
    omega
   ·injection hv with h1 h2 h3
    exact ⟨g', h1⟩
  have hi0 : (0 : Int) ≤ (i : Int) := by omega
  have hi1 : (i : Int) < (l.length : Int) := by omega
  obtain ⟨_, hbg, hnc, hcm, cur, hcur, hcs, ht⟩ := impl_File_135.R_flat HR2.out
  obtain ⟨i0, hi, hzz⟩ := Option.map_eq_some_iff.1 info45
  simp only [Prod.mk.injEq] at hzz
  have HSz := Aside0.mk (show (Try.prog.info? 45).map (·.size) = some (impl_File_135.flat [⟨n0, t, kk⟩]).length by rw [hi]; simp [hzz.2.1, impl_File_135.flat])
  have HQ := Aside0.mk (show base ≤ g ∧ l.length ≤ c ∧ c ≤ maxLen ∧ cur.size = c * 3 ∧ cur.toList.take (l.length * 3) = impl_File_135.flat l from ⟨hbg, hnc, hcm, hcs, ht⟩)
  have HCur := Aside0.mk hcur
  clear hi hzz hbg hnc hcm hcs ht hcur
  go_wp2
  go_still_tail 7, (by kernel_rfl)
  change wpList _ _ _ _ _ w2.drew
  refine store_blk rfl rfl 45 (.tmp 20) (.tmp 19) rfl (g := g) (off := i * 3) (e := 45) (cur := cur) (.agg #[.string n0, .string t, .int .i64 kk]) (impl_File_135.flat [⟨n0, t, kk⟩]) rfl rfl rfl HSz.out (blk_drew HCur.out) (by have h := HQ.out; have hl3 : (impl_File_135.flat [⟨n0, t, kk⟩]).length = 3 := rfl; omega) (impl_File_135.flat_one _) ?_
  intro w3 cur3 h3 hl3 hg3
  obtain ⟨hbg, hnc, hcm, hcs, ht⟩ := HQ.out
  obtain ⟨e1, e2⟩ := impl_Disk_put.set_flat hil hcs hnc ht hl3
  have hne : gb ≠ g := fun e => by
   have h1 := BK2.out
   rw [e, HCur.out] at h1
   injection h1 with h1
   injection h1 with _ h2
   exact absurd h2 (by decide)
  have HF := Aside0.mk (show impl_Disk_put.FrS w w3 (fun k => k = gb ∨ some k = (Value.slice (some ⟨g, 0, none⟩) l.length c).ownBlock) from (impl_Disk_put.FrS.ofBelow (Below.drew H2.out)).trans (impl_Disk_put.FrS.ofGrown (S := fun k => k = gb ∨ some k = (Value.slice (some ⟨g, 0, none⟩) l.length c).ownBlock) hg3 (fun k hk => Or.inr (by rw [← hk]; simp only [Value.ownBlock]))) (fun _ _ h => h))
  have HB := Aside0.mk (show w3.heap[gb]? = some (.cells #[.slice (some ⟨g, 0, none⟩) l.length c] 30 (0, 0)) from (hg3.block gb (blk_lt (blk_drew BK2.out)) (fun e => hne (by injection e))).trans (blk_drew BK2.out))
  have HRR := Aside0.mk (show Kd.R k45 45 w3 base (fun _ => True) (.slice (some ⟨g, 0, none⟩) l.length c) (l.set i ⟨n0, t, kk⟩) from impl_File_135.R_of_flat (by simp) hbg hnc hcm cur3 h3 e1 e2)
  clear h3 hl3 hg3 e1 e2 hne hbg hnc hcm hcs ht
  go_wp2
  go_end0
  exact ⟨rfl, _, HB.out, by rw [HP.out]; exact HRR.out, HF.out⟩
 ·have hh := Bool.eq_false_iff.2 hh
  have HP := Aside0.mk (show impl_Disk_put.putL ⟨n0, t, kk⟩ l = l.take (impl_Disk_place.idx n0 l) ++ ⟨n0, t, kk⟩ :: l.drop (impl_Disk_place.idx n0 l) by simp [impl_Disk_put.putL, hh])
  rw [hh]
  generalize impl_Disk_place.idx n0 l = i at HI HP ⊢
  clear hh
  go_wp2
  have BK3 := Aside0.mk (blk_drew BK2.out)
  have BF3 := Aside0.mk (blk_drew BF2.out)
  have HR3 := Aside0.mk (Kd.R_drew HR2.out)
  have H3 := Aside0.mk (Below.drew H2.out)
  clear hcf0 hcf1 hcf2 hcz0 hfz0
  refine start_ (n := 12) (S := fun w' => w'.cell? ⟨gb, 0, none⟩ = some (.slice A l.length c) ∧ w'.frozen? ⟨gb, 0, none⟩ = false ∧ w'.cell? ⟨gf, 0, none⟩ = some (.string n0) ∧ w'.cell? ⟨gf, 1, none⟩ = some (.string t) ∧ w'.cell? ⟨gf, 2, none⟩ = some (.int .i64 kk)) (ds := [11]) (bB 12 0) (by kernel_rfl) rfl rfl ⟨(blk_cell BK3.out 0).trans rfl, blk_frozen BK3.out 0, (blk_cell BF3.out 0).trans rfl, (blk_cell BF3.out 1).trans rfl, (blk_cell BF3.out 2).trans rfl⟩ (fun hHeld => ?_)
  generalize w2.drew = w3 at BK3 BF3 HR3 H3 hHeld ⊢
  refine pX 0 21 (bB 12 1) (by kernel_rfl) ?_
  refine pX 1 22 (bB 12 3) (by kernel_rfl) ?_
  refine pX 2 23 (bB 12 7) (by kernel_rfl) ?_
  refine pX 3 24 (bB 12 15) (by kernel_rfl) ?_
  refine take_ (i := 4) (N := some 25) (v := ?_) (a' := ?_) (bB 12 31) rfl rfl (by kernel_rfl) (fun _ _ _ h => h) (Or.inl ⟨by rfl, ?_⟩) hHeld ?_ ?_
  rotate_left
  ·rintro w' ⟨s0, s1, s2, s3, s4⟩
   go_simp
   with_reducible rfl
  rotate_left
  ·simp only [aP, aQ, sT, sZ, sU, i64_w, i32_w]
   rfl
  refine pX 5 26 (bB 12 63) (by kernel_rfl) ?_
  refine take_ (i := 6) (N := some 27) (v := ?_) (a' := ?_) (bB 12 127) rfl rfl (by kernel_rfl) (fun _ _ _ h => h) (Or.inl ⟨by rfl, ?_⟩) hHeld ?_ ?_
  rotate_left
  ·rintro w' ⟨s0, s1, s2, s3, s4⟩
   go_simp
   with_reducible rfl
  rotate_left
  ·simp only [aP, aQ, sT, sZ, sU, i64_w, i32_w]
   rfl
  refine one_ (i := 7) (N := some 28) (bB 12 255) rfl rfl (by kernel_rfl) (by decide) (fun K hK => ?_)
  refine value_ (v := .slice (some ⟨w3.heap.size, 0, none⟩) 1 1) (w1 := w3.alloc (.cells #[.string n0, .string t, .int .i64 kk] 45 (0, 0))) (by rfl) rfl (by go_simp; first | done | rfl | (simp; done)) ?_
  have H4 := Aside0.mk (below_alloc H3.out (.cells #[.string n0, .string t, .int .i64 kk] 45 (0, 0)))
  have BN4 := Aside0.mk (blk_new w3 (.cells #[.string n0, .string t, .int .i64 kk] 45 (0, 0)))
  have HA4 := Aside0.mk (below_alloc (Below.refl w3.heap.size w3) (.cells #[.string n0, .string t, .int .i64 kk] 45 (0, 0)))
  have BK4 := Aside0.mk (blk_below BK3.out HA4.out)
  have BF4 := Aside0.mk (blk_below BF3.out HA4.out)
  have HR4 := Aside0.mk (Kd.R_below HR3.out HA4.out)
  have hnew : ∀ g, (Value.slice A l.length c).ownBlock = some g → g < w3.heap.size := fun g hg => by
   obtain ⟨cells, hcells⟩ := Kd.R_typed HR3.out g hg
   exact blk_lt hcells
  clear HA4
  obtain ⟨gh, hgh⟩ : ∃ gh, gh = w3.heap.size := ⟨_, rfl⟩
  rw [← hgh] at BN4 hnew ⊢
  generalize w3.alloc (.cells #[.string n0, .string t, .int .i64 kk] 45 (0, 0)) = w4 at H4 BN4 BK4 BF4 HR4 ⊢
  refine hK.out _ _ ⟨(blk_cell BK4.out 0).trans rfl, blk_frozen BK4.out 0, (blk_cell BF4.out 0).trans rfl, (blk_cell BF4.out 1).trans rfl, (blk_cell BF4.out 2).trans rfl⟩ (fun hHeld => ?_)
  clear hK K
  refine nX 28 ?_
  refine one_ (i := 8) (N := some 29) (bB 12 511) rfl rfl (by kernel_rfl) (by decide) (fun K hK => ?_)
  refine goes_ Try.func135 (by kernel_rfl) rfl #[.slice A l.length c, .int .i64 (i : Int), .slice (some ⟨gh, 0, none⟩) 1 1] (by rfl) rfl rfl (by simp only [mT, mC, mN, Array.map, Act.eval]; first | done | rfl | (simp; done) | (trace_state; fail)) ?_
  refine (impl_File_135.calls A c base gh i l ⟨n0, t, kk⟩ w4 HR4.out _ 45 BN4.out rfl (fun e => by have := hnew gh e.symm; omega) HI.out hl (by have h := H4.out.size; have := HBW.out; omega)).mono ?_
  rintro e w5 ⟨v5, rfl, hr5, hg5⟩
  obtain ⟨A5, c5, rfl⟩ := Kd.R_slice hr5
  obtain ⟨n5, hn5⟩ : ∃ n5, n5 = (l.take i ++ (⟨n0, t, kk⟩ : S45) :: l.drop i).length := ⟨_, rfl⟩
  rw [← hn5] at hr5 ⊢
  have HR5 := Aside0.mk hr5
  have hnb : ∀ {k}, w4.heap[k]? = some (.cells #[.slice A l.length c] 30 (0, 0)) → some k ≠ (Value.slice A l.length c).ownBlock := fun hk => Kd.R_ne HR4.out hk (by decide)
  have BK5 := Aside0.mk ((hg5.block gb (blk_lt BK4.out) (hnb BK4.out)).trans BK4.out)
  have BF5 := Aside0.mk ((hg5.block gf (blk_lt BF4.out) (fun e => by have h1 := HOLD.out gf e.symm; have h2 := GF.out; omega)).trans BF4.out)
  have HG5 := Aside0.mk hg5
  clear hr5 hg5 hnb hn5
  refine ⟨_, rfl, ?_⟩
  refine hK.out _ _ ⟨(blk_cell BK5.out 0).trans rfl, blk_frozen BK5.out 0, (blk_cell BF5.out 0).trans rfl, (blk_cell BF5.out 1).trans rfl, (blk_cell BF5.out 2).trans rfl⟩ (fun hHeld => ?_)
  clear hK K
  refine nX 29 ?_
  refine pX 9 30 (bB 12 1023) (by kernel_rfl) ?_
  refine pX 10 31 (bB 12 2047) (by kernel_rfl) ?_
  refine last_ (i := 11) (N := none) (bB 12 4095) rfl rfl (by kernel_rfl) (by decide) (fun K hK => ?_)
  have hs5 := czA BK5.out 0 (.slice A l.length c)
  have hfs5 := blk_frozen BK5.out 0
  refine skip_ (w1 := ?_) (by rfl) rfl ?_ ?_
  rotate_left
  ·go_simp
   rfl
  refine hK.out _ _ ?_
  clear hK K
  refine done_ (by kernel_rfl) ?_
  have HF5 := Aside0.mk (show impl_Disk_put.FrS w w5 (fun k => k = gb ∨ some k = (Value.slice A l.length c).ownBlock) from (impl_Disk_put.FrS.ofBelow H4.out).trans (impl_Disk_put.FrS.ofGrown (S := fun k => k = gb ∨ some k = (Value.slice A l.length c).ownBlock) HG5.out (fun k hk => Or.inr hk.symm)) (fun _ _ h => h))
  have HF6 := Aside0.mk (HF5.out.setCell (g := gb) (j := 0) (Or.inl rfl) (.slice A5 n5 c5))
  have BK6 := Aside0.mk (blk_put (cs := #[.slice A l.length c]) BK5.out 0 (.slice A5 n5 c5) rfl)
  have HR6 := Aside0.mk (Kd.R_mono (Kd.R_far (p := ⟨gb, 0, none⟩) (Kd.R_types HR5.out BK5.out (by decide)) (fun _ hk => hk.2) (.slice A5 n5 c5)) (fun _ hk => trivial) : Kd.R k45 45 _ base (fun _ => True) (.slice A5 n5 c5) (l.take i ++ ⟨n0, t, kk⟩ :: l.drop i))
  try go_wp2
  go_end0
  exact ⟨rfl, _, BK6.out, by rw [HP.out]; exact HR6.out, HF6.out⟩

/-! ### impl_File_122: function 122 (given by the session) -/
theorem impl_File_122.run_clear_one {P : Program} (w : World) (t e ty : TypeId) (z : Value) (zs : List Value) (ht : P.underlying t = some (.slice e)) (hv : ∀ w, (zeroValue e).run P w = .ok z w) (hz : z.cells.toList = zs) (h1 : ∀ q ∈ zs, q.oneCell' = true) (b o c : Nat)
 (hc : ∀ j, j < zs.length → (w.cell? ⟨b, o + j, none⟩).isSome = true) (hf : ∀ j, j < zs.length → w.frozen? ⟨b, o + j, none⟩ = false) :
 (Builtin.clear_ #[t] ty #[.slice (some ⟨b, o, none⟩) 1 c]).run P w = .ok (.tuple #[]) (w.setCells b o zs) := by
 have hzc : (Builtin.zeroCells z.cells 1).toList = zs := by
  rw [← hz]
  apply List.ext_getElem
  ·simp [Builtin.zeroCells]
  ·intro i h1 h2
   have h2' : i < z.cells.size := by simpa using h2
   simp [Builtin.zeroCells, Nat.mod_eq_of_lt h2', h2']
 have hst := run_storeCells_cells (P := P) b o zs 0 w (by simpa using hc) (by simpa using hf) h1
 simp only [Nat.add_zero] at hst
 simp [Builtin.clear_, run_underlying ht, hv, hzc, hst]
/-- cells behind a row's own are written: the row stays. -/
theorem impl_File_122.R_beyond {w : World} {base g n c : Nat} {xs : List S45} (h : Kd.R k45 45 w base (fun _ => True) (.slice (some ⟨g, 0, none⟩) n c) xs) (o : Nat) (seg : List Value) (ho : n * 3 ≤ o) (hfit : o + seg.length ≤ c * 3) :
 Kd.R k45 45 (w.setCells g o seg) base (fun _ => True) (.slice (some ⟨g, 0, none⟩) n c) xs ∧ w.grownBy (w.setCells g o seg) (some g) := by
 obtain ⟨hn, _, _⟩ := Kd.R_reads' h
 obtain ⟨hok, inner, ho1, hr⟩ := h
 obtain ⟨hl, hcase⟩ := ho1
 rcases hcase with ⟨hv, _⟩ | ⟨g', cap', cur, hv, hb, hh, hnc, hcm, hcs, ht⟩
 ·cases hv
 injection hv with ha _ hc
 injection ha with ha
 injection ha with hg
 subst hg; subst hc
 have hsz : k45.sz = 3 := rfl
 rw [hsz] at hcs ht hl
 obtain ⟨cur', h3, h4, h5⟩ := setCells_row seg o w cur hh (by omega)
 obtain ⟨s1, s2, s3, s4⟩ := setCells_same g seg o w
 refine ⟨⟨hok, inner, ⟨hl, .inr ⟨g, c, cur', by rw [hn], hb, h3, hnc, hcm, by rw [h4, hcs]; rfl, ?_⟩⟩, ?_⟩, ⟨s1, s2, s3, by rw [s4]; exact Nat.le_refl _, fun k _ hk => setCells_far seg o k (fun he => hk (by rw [he]))⟩⟩
 ·have e1 : (cur.toList.take o).length = min o cur.size := by simp
  have e2 : xs.length * 3 ≤ min o cur.size := by rw [hcs]; omega
  rw [hsz, ← ht, h5, List.append_assoc, List.take_append_of_le_length (by rw [e1]; exact e2), List.take_take, Nat.min_eq_left (by omega)]
 ·refine hr.imp_ (fun x cs hM => ?_)
  obtain rfl := k45_openM hM
  exact k45_mkM _ _ _ x
theorem impl_File_122.zero (W : World) : (zeroValue 45).run Try.prog W = .ok (.agg #[.string ⟨#[]⟩, .string ⟨#[]⟩, .int .i64 0]) W := by
 obtain ⟨i0, hi, hz⟩ := Option.map_eq_some_iff.1 info45
 simp only [Prod.mk.injEq] at hz
 simp [zeroValue, typeInfo, hi, hz.1]
set_option maxHeartbeats 4000000 in
set_option maxRecDepth 100000 in
theorem impl_File_122.calls (g n c k base : Nat) (l : List S45) (w : World) (hR : Kd.R k45 45 w base (fun _ => True) (.slice (some ⟨g, 0, none⟩) n c) l) (hk : k < n) (hn : n ≤ 1099511627776) (hbase : base ≤ w.heap.size) :
 Calls Try.prog 122 #[.slice (some ⟨g, 0, none⟩) n c, .int .i64 (k : Int), .int .i64 ((k + 1 : Nat) : Int)] w fun e w' => ∃ c', e = .returned (.slice (some ⟨g, 0, none⟩) (n - 1) c') ∧ Kd.R k45 45 w' base (fun _ => True) (.slice (some ⟨g, 0, none⟩) (n - 1) c') (l.eraseIdx k) ∧ w.grownBy w' (some g) := by
 obtain ⟨hnl, hnc, hC⟩ := Kd.R_reads' hR
 subst hnl
 have HR := Aside0.mk hR
 clear hR hC
 have hp0 : (0 : Int) ≤ (k : Int) := by omega
 have hp1 : (k : Int) ≤ ((k + 1 : Nat) : Int) := by omega
 have hp2 : ((k + 1 : Nat) : Int) ≤ (l.length : Int) := by omega
 have hp3 : (k : Int) ≤ (l.length : Int) := by omega
 have hp4 : (0 : Int) ≤ (k : Int) + 1 := by omega
 have hp5 : (k : Int) + 1 ≤ (l.length : Int) := by omega
 have hp6 : (l.length : Int) ≤ (c : Int) := by omega
 have hp7 : (k : Int) ≤ (c : Int) := by omega
 by_cases hck : c = k + 1
 ·subst hck
  have hp8 : (k : Int) ≤ (k : Int) + 1 := by omega
  have hq : ((k : Int) = ((k + 1 : Nat) : Int)) = False := by simp; omega
  have hBr := Below.refl base w
  go_enter Try.func122, Try.ntmps122
  go_wp2
  go_still_tail 6, (by kernel_rfl)
  refine Kd.R_delete k45 (w0 := w) base rfl (.tmp 22) (.tmp 25) 28 45 rfl Try.underlying28 (by rw [show (Try.prog.info? 45).map (·.size) = ((Try.prog.info? 45).map (fun i => (i.zero, i.size, i.bytes))).map (·.2.1) by cases Try.prog.info? 45 <;> rfl, info45]; rfl) (g := g) (n := l.length) (c := (k + 1)) (k := k) rfl rfl ?hA ?hm (Kd.R_drew HR.out) hk (Below.drew hBr) hbase ?_
  case hA => rw [if_pos rfl]
  case hm => first | rfl | omega
  intro w1 h1 h2 h3
  have hlen2 : (l.eraseIdx k).length = l.length - 1 := by rw [List.length_eraseIdx, if_pos hk]
  have hn1 : l.length - (l.length - 1) = 1 := by omega
  obtain ⟨hb1, hb2⟩ := impl_File_122.R_beyond h1 ((l.length - 1) * 3) [.string ⟨#[]⟩, .string ⟨#[]⟩, .int .i64 0] (Nat.le_refl _) (by simp; omega)
  obtain ⟨hcell, hfrz⟩ : (∀ j, j < 3 → (w1.cell? ⟨g, (l.length - 1) * 3 + j, none⟩).isSome = true) ∧ ∀ j, w1.frozen? ⟨g, j, none⟩ = false := by
   obtain ⟨_, _, ⟨_, hcase⟩, _⟩ := h1
   rcases hcase with ⟨hv, _⟩ | ⟨g', cap', cur, hv, hb, hh, hnc', hcm, hcs, ht⟩
   ·cases hv
   injection hv with ha _ hc
   injection ha with ha
   injection ha with hg
   subst hg; subst hc
   have hcs' : cur.size = (k + 1) * 3 := hcs
   refine ⟨fun j hj => ?_, fun j => blk_frozen hh j⟩
   rw [cell_of_row w1 g _ cur 45 (0, 0) hh, Array.getElem?_eq_getElem (by rw [hcs']; omega)]
   rfl
  have HB1 := Aside0.mk hb1
  have HB2 := Aside0.mk hb2
  have HG1 := Aside0.mk h3
  have HCL := Aside0.mk (impl_File_122.run_clear_one (P := Try.prog) w1 28 45 0 (.agg #[.string ⟨#[]⟩, .string ⟨#[]⟩, .int .i64 0]) [.string ⟨#[]⟩, .string ⟨#[]⟩, .int .i64 0] Try.underlying28 (impl_File_122.zero) rfl (by intro q hq; simp at hq; rcases hq with rfl | rfl | rfl <;> rfl) g ((l.length - 1) * 3) ((k + 1) - (l.length - 1)) (fun j hj => hcell j hj) (fun j _ => hfrz _))
  clear h1 h2 h3 hb1 hb2
  go_wp2
  rw [HCL.out]
  simp only [Result.andThen]
  rw [Oper.upon_value]
  go_wp2
  go_ret
  refine ⟨(k + 1), rfl, HB1.out, ?_⟩
  exact ⟨HB2.out.os.trans HG1.out.os, HB2.out.tape.trans HG1.out.tape, HB2.out.output.trans HG1.out.output, Nat.le_trans HG1.out.size HB2.out.size, fun j hj hr => (HB2.out.block j (Nat.lt_of_lt_of_le hj HG1.out.size) hr).trans (HG1.out.block j hj hr)⟩
 ·skip
  have hck1 : ¬ (c - (k + 1) = 0) := by omega
  have hck2 : ¬ (k + 1 = c) := by omega
  have hq : ((k : Int) = ((k + 1 : Nat) : Int)) = False := by simp; omega
  have hBr := Below.refl base w
  go_enter Try.func122, Try.ntmps122
  go_wp2
  go_still_tail 6, (by kernel_rfl)
  refine Kd.R_delete k45 (w0 := w) base rfl (.tmp 22) (.tmp 25) 28 45 rfl Try.underlying28 (by rw [show (Try.prog.info? 45).map (·.size) = ((Try.prog.info? 45).map (fun i => (i.zero, i.size, i.bytes))).map (·.2.1) by cases Try.prog.info? 45 <;> rfl, info45]; rfl) (g := g) (n := l.length) (c := c) (k := k) (m := l.length - (k + 1)) rfl rfl ?hA2 rfl (Kd.R_drew HR.out) hk (Below.drew hBr) hbase ?_
  case hA2 => rw [if_neg hck, show k45.sz = 3 from rfl]; simp [Addr.add]
  intro w1 h1 h2 h3
  have hlen2 : (l.eraseIdx k).length = l.length - 1 := by rw [List.length_eraseIdx, if_pos hk]
  have hn1 : l.length - (l.length - 1) = 1 := by omega
  obtain ⟨hb1, hb2⟩ := impl_File_122.R_beyond h1 ((l.length - 1) * 3) [.string ⟨#[]⟩, .string ⟨#[]⟩, .int .i64 0] (Nat.le_refl _) (by simp; omega)
  obtain ⟨hcell, hfrz⟩ : (∀ j, j < 3 → (w1.cell? ⟨g, (l.length - 1) * 3 + j, none⟩).isSome = true) ∧ ∀ j, w1.frozen? ⟨g, j, none⟩ = false := by
   obtain ⟨_, _, ⟨_, hcase⟩, _⟩ := h1
   rcases hcase with ⟨hv, _⟩ | ⟨g', cap', cur, hv, hb, hh, hnc', hcm, hcs, ht⟩
   ·cases hv
   injection hv with ha _ hc
   injection ha with ha
   injection ha with hg
   subst hg; subst hc
   have hcs' : cur.size = c * 3 := hcs
   refine ⟨fun j hj => ?_, fun j => blk_frozen hh j⟩
   rw [cell_of_row w1 g _ cur 45 (0, 0) hh, Array.getElem?_eq_getElem (by rw [hcs']; omega)]
   rfl
  have HB1 := Aside0.mk hb1
  have HB2 := Aside0.mk hb2
  have HG1 := Aside0.mk h3
  have HCL := Aside0.mk (impl_File_122.run_clear_one (P := Try.prog) w1 28 45 0 (.agg #[.string ⟨#[]⟩, .string ⟨#[]⟩, .int .i64 0]) [.string ⟨#[]⟩, .string ⟨#[]⟩, .int .i64 0] Try.underlying28 (impl_File_122.zero) rfl (by intro q hq; simp at hq; rcases hq with rfl | rfl | rfl <;> rfl) g ((l.length - 1) * 3) (c - (l.length - 1)) (fun j hj => hcell j hj) (fun j _ => hfrz _))
  clear h1 h2 h3 hb1 hb2
  go_wp2
  rw [HCL.out]
  simp only [Result.andThen]
  rw [Oper.upon_value]
  go_wp2
  go_ret
  refine ⟨c, rfl, HB1.out, ?_⟩
  exact ⟨HB2.out.os.trans HG1.out.os, HB2.out.tape.trans HG1.out.tape, HB2.out.output.trans HG1.out.output, Nat.le_trans HG1.out.size HB2.out.size, fun j hj hr => (HB2.out.block j (Nat.lt_of_lt_of_le hj HG1.out.size) hr).trans (HG1.out.block j hj hr)⟩

end Go.Proofs.Ytidfhfaekdahpaa.QFnActs
