-- Own work (wip/turnprint.py over the kit's print).
import Derived.Test.YtacdceahdbaonaaQFnExactJournalTextx0
import Derived.Test.YtacdceahdbaonaaQFnExactJournalTextx3
import Derived.Test.YtacdceahdbaonaaQFnExactJournalTextx4
import Derived.Test.YtacdceahdbaonaaQFnExactJournalTextx5
namespace Go.Proofs.Ytacdceahdbaonaa.QFnExactJournalText
open Go.RowKit Go.Proofs.YtacdceahdbaonaaW.PrintWords Go.Proofs.YtacdceahdbaonaaW.PrintLast Go.Proofs.YtacdceahdbaonaaW.PrintMore
attribute [local go_sem] max2_int min2_int max_two min_two max_three min_three max_four min_four   -- for this text's walks alone
set_option linter.unusedVariables false
set_option linter.unusedSimpArgs false

/-! ### spec_l07Frames: function 62 (given by the session) -/
def spec_l07Frames.go (k : Nat) (s : Int) : List S40 → Nat → ByteArray → Option ByteArray
 | [], _, acc => some acc
 | e :: q, i, acc => (spec_EntryText.f k (wrap64 (wrap64 (s + 1) + (i : Int))) e.f0 e.f1 e.f2).bind fun t => (spec_Frame.f k t.1).bind fun x => if acc.size + x.1.size ≤ 140737488355328 then spec_l07Frames.go k s q (i + 1) (acc ++ x.1) else none
def spec_l07Frames.f (k : Nat) (a0_0 : Int) (a0_1 : Int) (l0_2 : List S40) (a1 : Int) : Option ByteArray := if a1 = 0 ∧ l0_2.length ≤ 1099511627776 then spec_l07Frames.go k a0_0 l0_2 0 ⟨#[]⟩ else none
theorem spec_l07Frames.go_mono (k : Nat) (s : Int) : ∀ (q : List S40) (i : Nat) (acc : ByteArray), LeO (spec_l07Frames.go k s q i acc) (spec_l07Frames.go (k + 1) s q i acc)
 | [], _, _ => LeO.refl _
 | e :: q, i, acc => by
  unfold spec_l07Frames.go
  refine LeO.bind (spec_EntryText.mono _ _ _ _ _) (fun t => LeO.bind (spec_Frame.mono _ _) (fun x => ?_))
  exact LeO.ite (spec_l07Frames.go_mono k s q (i + 1) (acc ++ x.1)) (LeO.refl _)
theorem spec_l07Frames.mono : ∀ a0 a1 a2 a3 k, LeO (spec_l07Frames.f k a0 a1 a2 a3) (spec_l07Frames.f (k + 1) a0 a1 a2 a3) := by
 intro a0 a1 a2 a3 k
 unfold spec_l07Frames.f
 exact LeO.ite (spec_l07Frames.go_mono k _ _ _ _) (LeO.refl _)
theorem spec_l07Frames.drop (l : List S40) (i : Nat) (h : i < l.length) : l.drop i = rd_T40 l (i : Int) :: l.drop (i + 1) := by
 have e : rd_T40 l (i : Int) = l.getD i z40 := rfl
 rw [e, List.drop_eq_getElem_cons h, List.getD_eq_getElem?_getD, List.getElem?_eq_getElem h]
 rfl
theorem spec_l07Frames.bytes (a b : ByteArray) : bytesOf (a ++ b) = bytesOf a ++ bytesOf b := by
 simp [bytesOf]
theorem spec_l07Frames.back (a : ByteArray) : strOfNums (bytesOf a) = a := by
 unfold strOfNums bytesOf
 apply ByteArray.ext
 apply Array.toList_inj.1
 simp [List.map_map, Function.comp_def]
theorem spec_l07Frames.info5 : (Try.prog.info? 5).map (fun i => (i.zero, i.size, i.bytes)) = some (some (.int .u8 0), 1, 1) := by kernel_rfl
theorem spec_l07Frames.conv {P : Program} {ops : Array Oper} {o : Oper} {rest : List Oper} {a : Act} {Q : Exit → Act → World → Prop} {W : World} (t : ByteArray) (hsz : t.size ≤ 9223372036854775807) (hgd : o.guard = none)
 (hrun : (execOp a.eval o).run P W = .ok (.value (.slice (some ⟨W.heap.size, 0, none⟩) t.size (grownCap W t.size 0 5))) (Lib.bytesWorld W 5 t))
 (h : ∀ g c w1, ReadsInt w1 .u8 (some ⟨g, 0, none⟩) t.size (bytesOf t) → Below W.heap.size W w1 → wpList P ops Q rest (a.put o.dst (.slice (some ⟨g, 0, none⟩) t.size c)) w1) : wpList P ops Q (o :: rest) a W :=
 Kd.event_run hgd hrun (h _ _ _ (bytes_reads W 5 t hsz) (bytes_below (Below.refl _ _) (Nat.le_refl _) 5 t))
theorem spec_l07Frames.str {P : Program} {ops : Array Oper} {o : Oper} {rest : List Oper} {a : Act} {Q : Exit → Act → World → Prop} {W : World} (s : ByteArray) (hgd : o.guard = none)
 (hrun : (execOp a.eval o).run P W = .ok (.value (.string s)) W) (h : wpList P ops Q rest (a.put o.dst (.string s)) W) : wpList P ops Q (o :: rest) a W := Kd.event_run hgd hrun h
set_option maxHeartbeats 8000000 in
set_option maxRecDepth 100000 in
theorem spec_l07Frames.calls (k : Nat) (a0_0 : Int) (a0_1 : Int) (A0_2 : Option Addr) (c0_2 : Nat) (l0_2 : List S40) (a1 : Int) (r : ByteArray) (w : World) (hr0_2 : Kd.C k40 w A0_2 l0_2.length l0_2) (hc0_2 : l0_2.length ≤ c0_2) (h : spec_l07Frames.f k a0_0 a0_1 l0_2 a1 = some r) :
 Calls Try.prog 62 #[.agg #[.int .i64 a0_0, .int .i64 a0_1, .slice A0_2 l0_2.length c0_2], .int .i64 a1] w fun e w' => e = .returned (.string r) ∧ Below w.heap.size w w' := by
 unfold spec_l07Frames.f at h
 by_cases hz : a1 = 0 ∧ l0_2.length ≤ 1099511627776
 case neg => rw [if_neg hz] at h; cases h
 rw [if_pos hz] at h
 obtain ⟨rfl, hlen⟩ := hz
 have HR := aM hr0_2
 have HC := aM hc0_2
 have HH := aM h
 have HB := aM (Below.refl w.heap.size w)
 clear hr0_2 hc0_2 h
 go_enter Try.func62, Try.ntmps62
 go_wp2_with (first | ((with_reducible refine gate_dst (N := 2) rfl ?_); refine bxE 2 #[.int .i64 a0_0, .int .i64 a0_1, .slice A0_2 l0_2.length c0_2] 30 ?_; intro gb hg w2 hbox hb; have BK := aM hbox; have HB2 := aM (below_step HB.out hb); clear HB hb hbox hg) | ((with_reducible refine gate_dst (N := 11) rfl ?_); refine Kd.R_lit (Kd.int .u8) _ 5 ?hg (N := 11) ?hd (xs := ([] : List Int)) (inner := []) (ok := fun _ => True) (okp := fun _ => True) ?hr ?hp (fun _ hk => hk) trivial (Below.refl _ _) (Nat.le_refl _) (by simp) ?_; (case hd => rfl); (case hg => rfl); (case hr => first | (go_simp; done) | (go_simp; rfl)); (case hp => exact (Reps.none _ _)); intro vo w3 ho hb hg_ hnew_; clear hg_ hnew_; have HO := aM (Kd.R_lower ho (below_size HB2.out)); have BK3 := aM (blk_below BK.out hb); have HB3 := aM (below_step HB2.out hb); clear BK hb ho))
 obtain ⟨inner, hown⟩ := Kd.R_own HO.out
 obtain rfl : inner = [] := List.eq_nil_of_length_eq_zero (by have := hown.1; simpa using this)
 have HOWN := aM (show w3.ownsRow w.heap.size 5 1 vo (⟨#[]⟩ : ByteArray).size (nums .u8 (bytesOf ⟨#[]⟩)) from hown)
 clear hown HO
 go_loopw [5, 6] (fun v5 v6 wr => ∃ (i : Nat) (acc : ByteArray), i ≤ l0_2.length ∧ v6 = .int .i64 (i : Int) ∧ Aside0 (spec_l07Frames.go k a0_0 (l0_2.drop i) i acc = some r) ∧ Aside0 (wr.ownsRow w.heap.size 5 1 v5 acc.size (nums .u8 (bytesOf acc))) ∧ Aside0 (wr.heap[gb]? = some (.cells #[.int .i64 a0_0, .int .i64 a0_1, .slice A0_2 l0_2.length c0_2] 30 (0, 0))) ∧ Aside0 (Below w.heap.size w wr)) (fun v5 v6 wr => l0_2.length - (intOf v6).toNat)
 case atStart => exact ⟨0, ⟨#[]⟩, Nat.zero_le _, rfl, HH, HOWN, BK3, HB3⟩
 case round =>
  clear HH HB2 BK3 HB3 HOWN
  obtain ⟨i, acc, hi, rfl, HA, HO, BK, HB⟩ := hrel
  by_cases hlt : i < l0_2.length
  ·have H := HA.out
   rw [spec_l07Frames.drop l0_2 i hlt] at H
   unfold spec_l07Frames.go at H
   obtain ⟨⟨t, tb⟩, ht, H2⟩ := Option.bind_eq_some_iff.mp H
   obtain ⟨⟨x, xb⟩, hx, H3⟩ := Option.bind_eq_some_iff.mp H2
   dsimp only at hx H3
   by_cases hsz : acc.size + x.size ≤ 140737488355328
   case neg => rw [if_neg hsz] at H3; cases H3
   rw [if_pos hsz] at H3
   have AT := aM ht
   have AX := aM hx
   have AN := aM H3
   have HSZ := aM hsz
   clear H H2 H3 ht hx hsz HA
   obtain ⟨ad, e, hx0, hx1, hx2⟩ := at_T40 HR.out (i : Int) (by omega) (by omega)
   cases e
   simp only [Int.toNat_natCast] at hx0 hx1 hx2
   have hx0 := hyB HB hx0
   have hx1 := hyB HB hx1
   have hx2 := hyB HB hx2
   have c1 : decide ((i : Int) < (l0_2.length : Int)) = true := decide_eq_true (by omega)
   have p1 : (0 ≤ (i : Int)) = True := eq_true (by omega)
   have q1 : ((i : Int) < (l0_2.length : Int)) = True := eq_true (by omega)
   have hcz0 := czA BK.out 0 (.int .i64 a0_0)
   have hcz2 := czA BK.out 2 (.slice (some ad) l0_2.length c0_2)
   have HZ := aM (show x.size ≤ 9223372036854775807 by have := HSZ.out; omega)
   have HL := aM (show ((bytesOf acc).length + x.size) * 1 ≤ 140737488355328 by rw [bytesOf_length, Nat.mul_one]; exact HSZ.out)
   go_wp2
   have HWd := aM (lD (Below.refl wr.heap.size wr))
   refine start_ (n := 16) (S := fun w' => w'.cell? ⟨gb, 0, none⟩ = some (.int .i64 a0_0) ∧ w'.cell? ⟨gb, 2, none⟩ = some (.slice (some ad) l0_2.length c0_2) ∧ w'.cell? (ad.add (i * 3)) = some (.int .i64 (rd_T40 l0_2 (i : Int)).f0) ∧ w'.cell? ⟨(ad.add (i * 3)).block, (ad.add (i * 3)).off + 1, none⟩ = some (.int .i64 (rd_T40 l0_2 (i : Int)).f1) ∧ w'.cell? ⟨(ad.add (i * 3)).block, (ad.add (i * 3)).off + 2, none⟩ = some (.string (rd_T40 l0_2 (i : Int)).f2)) (ds := []) (bB 16 0) (by kernel_rfl) rfl rfl ⟨hcz0, hcz2, hx0, hx1, hx2⟩ (fun hHeld => ?_)
   generalize wr.drew = wd at HWd hHeld ⊢
   refine pX 0 21 (bB 16 1) (by kernel_rfl) ?_
   refine take_ (i := 1) (N := some 22) (v := ?_) (a' := ?_) (bB 16 3) rfl rfl (by kernel_rfl) (fun _ _ _ h => h) (Or.inl ⟨by rfl, ?_⟩) hHeld ?_ ?_
   rotate_left
   ·rintro w' ⟨s0, s1, s2, s3, s4⟩
    go_simp
    with_reducible rfl
   rotate_left
   ·simp only [aP, aQ, sT, sZ, sU, i64_w, i32_w]
    rfl
   refine pX 2 23 (bB 16 7) (by kernel_rfl) ?_
   refine pX 3 24 (bB 16 15) (by kernel_rfl) ?_
   refine pX 4 25 (bB 16 31) (by kernel_rfl) ?_
   refine pX 5 26 (bB 16 63) (by kernel_rfl) ?_
   refine take_ (i := 6) (N := some 27) (v := ?_) (a' := ?_) (bB 16 127) rfl rfl (by kernel_rfl) (fun _ _ _ h => h) (Or.inl ⟨by rfl, ?_⟩) hHeld ?_ ?_
   rotate_left
   ·rintro w' ⟨s0, s1, s2, s3, s4⟩
    go_simp
    with_reducible rfl
   rotate_left
   ·simp only [aP, aQ, sT, sZ, sU, i64_w, i32_w]
    rfl
   refine pX 7 28 (bB 16 255) (by kernel_rfl) ?_
   refine pX 8 29 (bB 16 511) (by kernel_rfl) ?_
   refine take_ (i := 9) (N := some 30) (v := ?_) (a' := ?_) (bB 16 1023) rfl rfl (by kernel_rfl) (fun _ _ _ h => h) (Or.inl ⟨by rfl, ?_⟩) hHeld ?_ ?_
   rotate_left
   ·rintro w' ⟨s0, s1, s2, s3, s4⟩
    go_simp
    with_reducible rfl
   rotate_left
   ·simp only [aP, aQ, sT, sZ, sU, i64_w, i32_w]
    rfl
   refine one_ (i := 10) (N := some 31) (bB 16 2047) rfl rfl (by kernel_rfl) (by decide) (fun K hK => ?_)
   refine goes_ Try.func24 (by kernel_rfl) rfl #[.int .i64 (wrap64 (wrap64 (a0_0 + 1) + (i : Int))), .agg #[.int .i64 (rd_T40 l0_2 (i : Int)).f0, .int .i64 (rd_T40 l0_2 (i : Int)).f1, .string (rd_T40 l0_2 (i : Int)).f2]] (by rfl) rfl rfl (by simp only [mT, mC, mN, Array.map, Act.eval]; first | done | rfl | (simp; done)) ?_
   refine (spec_EntryText.calls k _ _ _ _ t tb _ AT.out).mono ?_
   rintro e w5 ⟨rfl, hb5⟩
   have HW5 := aM (below_step HWd.out hb5)
   clear hb5
   refine ⟨_, rfl, ?_⟩
   refine hK.out _ _ ⟨(HW5.out.cell (World.block_lt_of_cell? wr _ hcz0)).trans hcz0, (HW5.out.cell (World.block_lt_of_cell? wr _ hcz2)).trans hcz2, (HW5.out.cell (World.block_lt_of_cell? wr _ hx0)).trans hx0, (HW5.out.cell (World.block_lt_of_cell? wr _ hx1)).trans hx1, (HW5.out.cell (World.block_lt_of_cell? wr _ hx2)).trans hx2⟩ (fun hHeld => ?_)
   clear hK K
   refine nX 31 ?_
   refine pX 11 20 (bB 16 4095) (by kernel_rfl) ?_
   refine pX 12 32 (bB 16 8191) (by kernel_rfl) ?_
   refine pX 13 33 (bB 16 16383) (by kernel_rfl) ?_
   refine pX 14 7 (bB 16 32767) (by kernel_rfl) ?_
   refine pX 15 8 (bB 16 65535) (by kernel_rfl) ?_
   refine done_ (by kernel_rfl) ?_
   go_wp2_with (first | (go_at_call 60; refine (spec_Frame.calls k t x xb _ AX.out).mono ?_; rintro e w6 ⟨rfl, hb6⟩; have HW6 := aM (below_step (uL HW5) hb6); clear hb6) | ((with_reducible refine gate_dst (N := 41) rfl ?_); refine spec_l07Frames.conv x ?hz rfl ?hr ?_; (case hz => exact HZ.out); (case hr => first | exact print_bytes (P := Try.prog) 9 75 5 Try.underlying9 Try.underlying75 Try.underlying5 x _ | (go_simp; rw [print_bytes (P := Try.prog) 9 75 5 Try.underlying9 Try.underlying75 Try.underlying5 x _]; rfl)); intro gc cc w7 hr7 hb7; have HW7 := aM (below_step (uL HW6) hb7); have HR7 := aM hr7; have HO7 := aM (show w7.ownsRow w.heap.size 5 1 _ (bytesOf acc).length (nums .u8 (bytesOf acc)) by rw [bytesOf_length]; exact pw_own_below HO.out HW7.out); clear hr7 hb7) | (at_builtin; refine print_append_row (w0 := w) w.heap.size rfl (.tmp 39) (.tmp 41) 75 5 .u8 1 rfl Try.underlying75 spec_l07Frames.info5 (by decide) _ (bytesOf acc) (bytesOf x) _ _ _ rfl rfl ?aO ?aR (below_step HB.out HW7.out) (below_step HB.out HW7.out).size HL.out ?_; (case aO => exact HO7.out); (case aR => exact HR7.out); intro v9 w9 ho hb hg hat; have HO9 := aM ho; have HB9 := aM hb; have HG9 := aM hg; clear ho hb hg hat))
   have hb7 := blk_below BK.out HW7.out
   refine ⟨⟨i + 1, acc ++ x, by omega, by rw [show (i : Int) + 1 = ((i + 1 : Nat) : Int) by omega], AN, ⟨?_⟩, ⟨(HG9.out.block gb (blk_lt hb7) (fun e => Lib.ownBlock_ne HO7.out hb7 (by decide) e.symm)).trans hb7⟩, HB9⟩, ?_⟩
   ·have h := HO9.out
    rw [← spec_l07Frames.bytes, bytesOf_length] at h
    exact h
   ·simp only [intOf]
    omega
  ·obtain rfl : i = l0_2.length := by omega
   have H := HA.out
   rw [List.drop_eq_nil_of_le (Nat.le_refl _)] at H
   unfold spec_l07Frames.go at H
   obtain rfl := Option.some.inj H
   clear H HA
   have hcz2 := czA BK.out 2 (.slice A0_2 l0_2.length c0_2)
   have c1 : decide ((l0_2.length : Int) < (l0_2.length : Int)) = false := decide_eq_false (by omega)
   go_wp2_with (first | ((with_reducible refine gate_dst (N := 44) rfl ?_); refine spec_l07Frames.str acc rfl ?hr ?_; (case hr => (go_simp; rw [own_string (P := Try.prog) Try.underlying75 Try.underlying5 Try.underlying9 HO.out, spec_l07Frames.back]; rfl))))
   go_ret
   exact ⟨rfl, HB.out⟩

/-! ### spec_JournalText: function 41 -/
def spec_JournalText.f (k : Nat) (a0_0 : Int) (a0_1 : Int) (a0_2 : Int) (a0_3 : Int) (a0_4 : Int) (l0_5 : List (S40)) : Option (ByteArray × Bool) := (spec_JournalOk.f k a0_0 a0_1 a0_2 a0_3 a0_4 l0_5).bind fun t218 => (if t218 = true then ((spec_l01Var.f k a0_3).bind fun t219 => (if 1 + t219.size ≤ 9223372036854775807 then ((spec_l01Var.f k a0_4).bind fun t220 => (if ((⟨#[66]⟩ : ByteArray) ++ t219).size + t220.size ≤ 9223372036854775807 then ((spec_Frame.f k (((⟨#[66]⟩ : ByteArray) ++ t219) ++ t220)).bind fun bt221 => ((spec_l07Hard.f k a0_1 a0_2).bind fun t223 => (if bt221.1.size + t223.size ≤ 9223372036854775807 then ((spec_l07Frames.f k a0_3 a0_4 l0_5 0).bind fun t224 => (if (bt221.1 ++ t223).size + t224.size ≤ 9223372036854775807 then (if (((bt221.1 ++ t223) ++ t224).size : Int) > 20000 then (some ((⟨#[]⟩ : ByteArray), false)) else (some ((bt221.1 ++ t223) ++ t224, true))) else (none))) else (none)))) else (none))) else (none))) else (some ((⟨#[]⟩ : ByteArray), false)))
theorem spec_JournalText.mono : ∀ a0 a1 a2 a3 a4 a5 k, LeO (spec_JournalText.f k a0 a1 a2 a3 a4 a5) (spec_JournalText.f (k + 1) a0 a1 a2 a3 a4 a5) := by
 intro a0 a1 a2 a3 a4 a5 k
 unfold spec_JournalText.f
 repeat' first
  | (with_reducible exact spec_Frame.mono _ _)
  | (with_reducible exact spec_JournalOk.mono _ _ _ _ _ _ _)
  | (with_reducible exact spec_l01Var.mono _ _)
  | (with_reducible exact spec_l07Frames.mono _ _ _ _ _)
  | (with_reducible exact spec_l07Hard.mono _ _ _)
  | (with_reducible exact LeO.refl _)
  | (with_reducible exact LeO.none _)
  | (with_reducible refine LeO.ite ?_ ?_)
  | (with_reducible refine LeO.bind ?_ (fun _ => ?_))
  | exact spec_Frame.mono _ _
  | exact spec_JournalOk.mono _ _ _ _ _ _ _
  | exact spec_l01Var.mono _ _
  | exact spec_l07Frames.mono _ _ _ _ _
  | exact spec_l07Hard.mono _ _ _
  | exact LeO.none _
  | refine LeO.ite ?_ ?_
  | refine LeO.bind ?_ (fun _ => ?_)
def spec_JournalText.T3 : Bool × List (List Nat × List Nat) := (true, [([], []), ([0], [0]), ([1], [1]), ([2], [2]), ([3], [3]), ([], []), ([5], [5]), ([6], [6]), ([7, 3], [7]), ([4, 8], [4, 8]), ([9, 8], [9]), ([10], [10]), ([11], [11]), ([11], [11]), ([12, 10, 0, 1, 2, 3, 4, 5, 6, 7, 8, 9, 10, 11, 12], [12]), ([13, 14, 0, 1, 2, 3, 4, 5, 6, 7, 8, 9, 10, 11, 12, 13, 14], [13])])
def spec_JournalText.B3 : List Nat := [0, 1, 3, 7, 15, 0, 32, 96, 239, 511, 1023, 2047, 4095, 4095, 8191, 32767]
theorem spec_JournalText.tab3 : rtab .any (opsOf Try.f41 3) = spec_JournalText.T3 := by kernel_rfl
theorem spec_JournalText.bits3 : waitsOk spec_JournalText.T3.2 spec_JournalText.B3 = true := by kernel_rfl
def spec_JournalText.T4 : Bool × List (List Nat × List Nat) := (true, [([], []), ([], []), ([1], [1]), ([], []), ([3], [3]), ([2, 4], [2, 4]), ([0, 5], [0, 5]), ([], []), ([7], [7]), ([8, 5], [8]), ([6, 9], [6, 9]), ([10, 9, 0, 1, 2, 3, 4, 5, 6, 7, 8, 9, 10], [10])])
def spec_JournalText.B4 : List Nat := [0, 0, 2, 0, 8, 30, 63, 0, 128, 446, 1023, 2047]
theorem spec_JournalText.tab4 : rtab .any (opsOf Try.f41 4) = spec_JournalText.T4 := by kernel_rfl
theorem spec_JournalText.bits4 : waitsOk spec_JournalText.T4.2 spec_JournalText.B4 = true := by kernel_rfl
set_option maxHeartbeats 8000000 in
set_option maxRecDepth 100000 in
theorem spec_JournalText.calls (k : Nat) (a0_0 : Int) (a0_1 : Int) (a0_2 : Int) (a0_3 : Int) (a0_4 : Int) (A0_5 : Option Addr) (c0_5 : Nat) (l0_5 : List (S40)) (r1 : ByteArray) (r2 : Bool) (w : World) (hr0_5 : Kd.C k40 w A0_5 l0_5.length l0_5) (hc0_5 : l0_5.length ≤ c0_5) (h : spec_JournalText.f k a0_0 a0_1 a0_2 a0_3 a0_4 l0_5 = some (r1, r2)) :
 Calls Try.prog 41 #[.agg #[.int .i64 a0_0, .int .i64 a0_1, .int .i64 a0_2, .int .i64 a0_3, .int .i64 a0_4, .slice A0_5 l0_5.length c0_5]] w fun e w' => e = .returned (.tuple #[.string r1, .bool r2]) ∧ Below w.heap.size w w' := by
 have hu59 := Try.underlying59
 have hu30 := Try.underlying30
 have HR0_5 := aM hr0_5
 have HC0_5 := aM hc0_5
 clear hr0_5 hc0_5
 have HB := aM (Below.refl w.heap.size w)
 have H : ((spec_JournalOk.f k a0_0 a0_1 a0_2 a0_3 a0_4 l0_5).bind fun t218 => (if t218 = true then ((spec_l01Var.f k a0_3).bind fun t219 => (if 1 + t219.size ≤ 9223372036854775807 then ((spec_l01Var.f k a0_4).bind fun t220 => (if ((⟨#[66]⟩ : ByteArray) ++ t219).size + t220.size ≤ 9223372036854775807 then ((spec_Frame.f k (((⟨#[66]⟩ : ByteArray) ++ t219) ++ t220)).bind fun bt221 => ((spec_l07Hard.f k a0_1 a0_2).bind fun t223 => (if bt221.1.size + t223.size ≤ 9223372036854775807 then ((spec_l07Frames.f k a0_3 a0_4 l0_5 0).bind fun t224 => (if (bt221.1 ++ t223).size + t224.size ≤ 9223372036854775807 then (if (((bt221.1 ++ t223) ++ t224).size : Int) > 20000 then (some ((⟨#[]⟩ : ByteArray), false)) else (some ((bt221.1 ++ t223) ++ t224, true))) else (none))) else (none)))) else (none))) else (none))) else (some ((⟨#[]⟩ : ByteArray), false)))) = some (r1, r2) := h
 clear h
 replace H := Option.bind_eq_some_iff.mp H
 obtain ⟨t218, A20, H⟩ := H
 try dsimp only at H
 have A2 := aM A20
 clear A20
 refine Classical.byCases (p := t218 = true) (fun c3 => ?L1p) (fun c3 => ?L1n)
 case' L1p =>
  subst c3
  rw [if_pos rfl] at H
  replace H := Option.bind_eq_some_iff.mp H
  obtain ⟨t219, A40, H⟩ := H
  try dsimp only at H
  have A4 := aM A40
  clear A40
  refine Classical.byCases (p := 1 + t219.size ≤ 9223372036854775807) (fun c5 => ?L2p) (fun c5 => ?L2n)
  case' L2p =>
   rw [if_pos c5] at H
   have c5b0 := eq_true c5
   have c5b1 : decide (1 + t219.size ≤ 9223372036854775807) = true := decide_eq_true c5
   try have c5b2 : (9223372036854775807 < 1 + t219.size) = False := eq_false (Nat.not_lt.2 c5)
   replace H := Option.bind_eq_some_iff.mp H
   obtain ⟨t220, A60, H⟩ := H
   try dsimp only at H
   have A6 := aM A60
   clear A60
   refine Classical.byCases (p := ((⟨#[66]⟩ : ByteArray) ++ t219).size + t220.size ≤ 9223372036854775807) (fun c7 => ?L3p) (fun c7 => ?L3n)
   case' L3p =>
    rw [if_pos c7] at H
    have c7b0 := eq_true c7
    have c7b1 : decide (((⟨#[66]⟩ : ByteArray) ++ t219).size + t220.size ≤ 9223372036854775807) = true := decide_eq_true c7
    try have c7b2 : (9223372036854775807 < ((⟨#[66]⟩ : ByteArray) ++ t219).size + t220.size) = False := eq_false (Nat.not_lt.2 c7)
    try have c7b3 : (9223372036854775807 < 1 + t219.size + t220.size) = False := eq_false (Nat.not_lt.2 (by have h_ := c7; simp only [ByteArray.size_append] at h_; exact h_))
    replace H := Option.bind_eq_some_iff.mp H
    obtain ⟨⟨t221, t222⟩, A80, H⟩ := H
    try dsimp only at H
    have A8 := aM A80
    clear A80
    replace H := Option.bind_eq_some_iff.mp H
    obtain ⟨t223, A90, H⟩ := H
    try dsimp only at H
    have A9 := aM A90
    clear A90
    refine Classical.byCases (p := t221.size + t223.size ≤ 9223372036854775807) (fun c10 => ?L4p) (fun c10 => ?L4n)
    case' L4p =>
     rw [if_pos c10] at H
     have c10b0 := eq_true c10
     have c10b1 : decide (t221.size + t223.size ≤ 9223372036854775807) = true := decide_eq_true c10
     try have c10b2 : (9223372036854775807 < t221.size + t223.size) = False := eq_false (Nat.not_lt.2 c10)
     replace H := Option.bind_eq_some_iff.mp H
     obtain ⟨t224, A110, H⟩ := H
     try dsimp only at H
     have A11 := aM A110
     clear A110
     refine Classical.byCases (p := (t221 ++ t223).size + t224.size ≤ 9223372036854775807) (fun c12 => ?L5p) (fun c12 => ?L5n)
     case' L5p =>
      rw [if_pos c12] at H
      have c12b0 := eq_true c12
      have c12b1 : decide ((t221 ++ t223).size + t224.size ≤ 9223372036854775807) = true := decide_eq_true c12
      try have c12b2 : (9223372036854775807 < (t221 ++ t223).size + t224.size) = False := eq_false (Nat.not_lt.2 c12)
      try have c12b3 : (9223372036854775807 < t221.size + t223.size + t224.size) = False := eq_false (Nat.not_lt.2 (by have h_ := c12; simp only [ByteArray.size_append] at h_; exact h_))
      refine Classical.byCases (p := (((t221 ++ t223) ++ t224).size : Int) > 20000) (fun c13 => ?L6p) (fun c13 => ?L6n)
      case' L6p =>
       rw [if_pos c13] at H
       have c13b0 : decide (20000 < (((t221 ++ t223) ++ t224).size : Int)) = true := decide_eq_true c13
       (try (have c13f0 := c13b0; simp only [ByteArray.size_append, Int.natCast_add] at c13f0))
       have c13b1 : decide (20000 < ((t221 ++ t223) ++ t224).size) = true := decide_eq_true (by omega)
       (try (have c13f1 := c13b1; simp only [ByteArray.size_append, Int.natCast_add] at c13f1))
       clear c13
       simp only [Option.some.injEq, Prod.mk.injEq] at H
       obtain ⟨rfl, rfl⟩ := H
      case' L6n =>
       rw [if_neg c13] at H
       have c13b0 : decide (20000 < (((t221 ++ t223) ++ t224).size : Int)) = false := decide_eq_false c13
       (try (have c13f0 := c13b0; simp only [ByteArray.size_append, Int.natCast_add] at c13f0))
       have c13b1 : decide (20000 < ((t221 ++ t223) ++ t224).size) = false := decide_eq_false (by omega)
       (try (have c13f1 := c13b1; simp only [ByteArray.size_append, Int.natCast_add] at c13f1))
       clear c13
       simp only [Option.some.injEq, Prod.mk.injEq] at H
       obtain ⟨rfl, rfl⟩ := H
     case' L5n =>
      rw [if_neg c12] at H
      exact absurd H (by simp)
    case' L4n =>
     rw [if_neg c10] at H
     exact absurd H (by simp)
   case' L3n =>
    rw [if_neg c7] at H
    exact absurd H (by simp)
  case' L2n =>
   rw [if_neg c5] at H
   exact absurd H (by simp)
 case' L1n =>
  replace c3 := Bool.eq_false_iff.mpr c3
  subst c3
  have H1 : (some ((⟨#[]⟩ : ByteArray), false)) = some (r1, r2) := by rw [if_neg (show ¬ (false = true) by decide)] at H; exact H
  clear H; have H := H1; clear H1
  simp only [Option.some.injEq, Prod.mk.injEq] at H
  obtain ⟨rfl, rfl⟩ := H
  go_enter Try.func41, Try.ntmps41
  go_wp2_with (first | ((with_reducible refine gate_dst (N := 1) rfl ?_); refine bxE 1 #[.int .i64 a0_0, .int .i64 a0_1, .int .i64 a0_2, .int .i64 a0_3, .int .i64 a0_4, .slice A0_5 l0_5.length c0_5] 59 ?_; intro gb217 hg w34 hbox hb; have BK217 := aM (hbox); have GW217 := szG hg (uL HB); have GE217 := szG hg (uL HB); replace HB := aM (below_step (uL HB) hb); clear hb hbox hg; have hcz35_0 := czA BK217.out 0 (.int .i64 a0_0); have hcz35_1 := czA BK217.out 1 (.int .i64 a0_1); have hcz35_2 := czA BK217.out 2 (.int .i64 a0_2); have hcz35_3 := czA BK217.out 3 (.int .i64 a0_3); have hcz35_4 := czA BK217.out 4 (.int .i64 a0_4); have hcz35_5 := czA BK217.out 5 (.slice A0_5 l0_5.length c0_5); have hfz35_0 := blk_frozen BK217.out 0; have hfz35_1 := blk_frozen BK217.out 1; have hfz35_2 := blk_frozen BK217.out 2; have hfz35_3 := blk_frozen BK217.out 3; have hfz35_4 := blk_frozen BK217.out 4; have hfz35_5 := blk_frozen BK217.out 5) | ((with_reducible refine gate_callee (f := 37) rfl ?_); refine gL (some 8) Try.func37 #[.agg #[.int .i64 a0_0, .int .i64 a0_1, .int .i64 a0_2, .int .i64 a0_3, .int .i64 a0_4, .slice A0_5 l0_5.length c0_5]] ?_; (with_reducible refine (spec_JournalOk.calls k a0_0 a0_1 a0_2 a0_3 a0_4 _ _ l0_5 false _ ?side1 ?side2 A2.out).mono ?_); (case side1 => exact uC HR0_5 HB); (case side2 => exact HC0_5.out); rintro e w36 ⟨rfl, hb⟩; refine ⟨_, rfl, ?_⟩; replace BK217 := blkB BK217 hb; replace HB := aM (below_step (uL HB) hb); try clear hb))
  go_ret2
  exact rX HB
 case L6p | L6n =>
  go_enter Try.func41, Try.ntmps41
  try go_wp2_with (first | ((with_reducible refine gate_dst (N := 1) rfl ?_); refine bxE 1 #[.int .i64 a0_0, .int .i64 a0_1, .int .i64 a0_2, .int .i64 a0_3, .int .i64 a0_4, .slice A0_5 l0_5.length c0_5] 59 ?_; intro gb217 hg w14 hbox hb; have BK217 := aM (hbox); have GW217 := szG hg (uL HB); have GE217 := szG hg (uL HB); replace HB := aM (below_step (uL HB) hb); clear hb hbox hg; have hcz15_0 := czA BK217.out 0 (.int .i64 a0_0); have hcz15_1 := czA BK217.out 1 (.int .i64 a0_1); have hcz15_2 := czA BK217.out 2 (.int .i64 a0_2); have hcz15_3 := czA BK217.out 3 (.int .i64 a0_3); have hcz15_4 := czA BK217.out 4 (.int .i64 a0_4); have hcz15_5 := czA BK217.out 5 (.slice A0_5 l0_5.length c0_5); have hfz15_0 := blk_frozen BK217.out 0; have hfz15_1 := blk_frozen BK217.out 1; have hfz15_2 := blk_frozen BK217.out 2; have hfz15_3 := blk_frozen BK217.out 3; have hfz15_4 := blk_frozen BK217.out 4; have hfz15_5 := blk_frozen BK217.out 5) | ((with_reducible refine gate_callee (f := 37) rfl ?_); refine gL (some 8) Try.func37 #[.agg #[.int .i64 a0_0, .int .i64 a0_1, .int .i64 a0_2, .int .i64 a0_3, .int .i64 a0_4, .slice A0_5 l0_5.length c0_5]] ?_; (with_reducible refine (spec_JournalOk.calls k a0_0 a0_1 a0_2 a0_3 a0_4 _ _ l0_5 true _ ?side1 ?side2 A2.out).mono ?_); (case side1 => exact uC HR0_5 HB); (case side2 => exact HC0_5.out); rintro e w16 ⟨rfl, hb⟩; refine ⟨_, rfl, ?_⟩; replace BK217 := blkB BK217 hb; replace HB := aM (below_step (uL HB) hb); try clear hb))
  replace BK217 := aM (blk_drew BK217.out)
  replace HB := aM (below_drew1 HB.out)
  refine start_ (n := 16) (S := fun w' => w'.cell? ⟨gb217, 0, none⟩ = some (.int .i64 a0_0) ∧ w'.cell? ⟨gb217, 1, none⟩ = some (.int .i64 a0_1) ∧ w'.cell? ⟨gb217, 2, none⟩ = some (.int .i64 a0_2) ∧ w'.cell? ⟨gb217, 3, none⟩ = some (.int .i64 a0_3) ∧ w'.cell? ⟨gb217, 4, none⟩ = some (.int .i64 a0_4) ∧ w'.cell? ⟨gb217, 5, none⟩ = some (.slice A0_5 l0_5.length c0_5)) (ds := []) (bB 16 0) (by kernel_rfl) rfl rfl ⟨(blk_cell BK217.out 0).trans rfl, (blk_cell BK217.out 1).trans rfl, (blk_cell BK217.out 2).trans rfl, (blk_cell BK217.out 3).trans rfl, (blk_cell BK217.out 4).trans rfl, (blk_cell BK217.out 5).trans rfl⟩ (fun hHeld => ?_); refine with_tabW spec_JournalText.tab3 spec_JournalText.bits3 (fun HT_ HW_ => ?_)
  generalize w16.drew = w17 at BK217 HB hHeld ⊢
  refine pA HT_.out 0 11 16 1 ?_; refine pA HT_.out 1 12 16 3 ?_; refine pA HT_.out 5 16 16 35 ?_; refine pA HT_.out 6 17 16 99 ?_; refine tA HT_.out HW_.out 2 13 16 103 hHeld ?_; refine tA HT_.out HW_.out 7 18 16 231 hHeld ?_
  refine oA HT_.out 3 (some 14) 16 239 (fun K hK => ?_)
  refine gX Try.func52 #[.int .i64 a0_3] ?_
  with_reducible refine (spec_l01Var.calls k a0_3 t219 _ A4.out).mono ?_
  rintro e w18 ⟨rfl, hb⟩
  refine ⟨_, rfl, ?_⟩
  replace BK217 := blkB BK217 hb
  replace HB := aM (below_step (uL HB) hb)
  (try clear hb)
  (try clear hb2)
  (try clear hk)
  (try clear hi)
  refine hK.out _ _ ⟨(blk_cell BK217.out 0).trans rfl, (blk_cell BK217.out 1).trans rfl, (blk_cell BK217.out 2).trans rfl, (blk_cell BK217.out 3).trans rfl, (blk_cell BK217.out 4).trans rfl, (blk_cell BK217.out 5).trans rfl⟩ (fun hHeld => ?_)
  clear hK K
  refine nX 14 ?_; refine pA HT_.out 4 15 16 255 ?_
  refine oA HT_.out 8 (some 19) 16 511 (fun K hK => ?_)
  refine gX Try.func52 #[.int .i64 a0_4] ?_
  with_reducible refine (spec_l01Var.calls k a0_4 t220 _ A6.out).mono ?_
  rintro e w19 ⟨rfl, hb⟩
  refine ⟨_, rfl, ?_⟩
  replace BK217 := blkB BK217 hb
  replace HB := aM (below_step (uL HB) hb)
  (try clear hb)
  (try clear hb2)
  (try clear hk)
  (try clear hi)
  refine hK.out _ _ ⟨(blk_cell BK217.out 0).trans rfl, (blk_cell BK217.out 1).trans rfl, (blk_cell BK217.out 2).trans rfl, (blk_cell BK217.out 3).trans rfl, (blk_cell BK217.out 4).trans rfl, (blk_cell BK217.out 5).trans rfl⟩ (fun hHeld => ?_)
  clear hK K
  refine nX 19 ?_; refine pA HT_.out 9 20 16 1023 ?_
  refine oA HT_.out 10 (some 21) 16 2047 (fun K hK => ?_)
  refine gX Try.func60 #[.string (((⟨#[66]⟩ : ByteArray) ++ t219) ++ t220)] ?_
  with_reducible refine (spec_Frame.calls k (((⟨#[66]⟩ : ByteArray) ++ t219) ++ t220) t221 t222 _ A8.out).mono ?_
  rintro e w20 ⟨rfl, hb⟩
  refine ⟨_, rfl, ?_⟩
  replace BK217 := blkB BK217 hb
  replace HB := aM (below_step (uL HB) hb)
  (try clear hb)
  (try clear hb2)
  (try clear hk)
  (try clear hi)
  refine hK.out _ _ ⟨(blk_cell BK217.out 0).trans rfl, (blk_cell BK217.out 1).trans rfl, (blk_cell BK217.out 2).trans rfl, (blk_cell BK217.out 3).trans rfl, (blk_cell BK217.out 4).trans rfl, (blk_cell BK217.out 5).trans rfl⟩ (fun hHeld => ?_)
  clear hK K
  refine nX 21 ?_; refine pA HT_.out 11 10 16 4095 ?_; refine pA HT_.out 12 22 16 8191 ?_; refine pA HT_.out 13 23 16 16383 ?_; refine pA HT_.out 14 4 16 32767 ?_; refine pA HT_.out 15 5 16 65535 ?_
  refine done_ (done_of HT_.out (by kernel_rfl)) ?_
  try go_wp2
  replace BK217 := aM (blk_drew BK217.out)
  replace HB := aM (below_drew1 HB.out)
  refine start_ (n := 12) (S := fun w' => w'.cell? ⟨gb217, 0, none⟩ = some (.int .i64 a0_0) ∧ w'.cell? ⟨gb217, 1, none⟩ = some (.int .i64 a0_1) ∧ w'.cell? ⟨gb217, 2, none⟩ = some (.int .i64 a0_2) ∧ w'.cell? ⟨gb217, 3, none⟩ = some (.int .i64 a0_3) ∧ w'.cell? ⟨gb217, 4, none⟩ = some (.int .i64 a0_4) ∧ w'.cell? ⟨gb217, 5, none⟩ = some (.slice A0_5 l0_5.length c0_5)) (ds := []) (bB 12 0) (by kernel_rfl) rfl rfl ⟨(blk_cell BK217.out 0).trans rfl, (blk_cell BK217.out 1).trans rfl, (blk_cell BK217.out 2).trans rfl, (blk_cell BK217.out 3).trans rfl, (blk_cell BK217.out 4).trans rfl, (blk_cell BK217.out 5).trans rfl⟩ (fun hHeld => ?_); refine with_tabW spec_JournalText.tab4 spec_JournalText.bits4 (fun HT_ HW_ => ?_)
  generalize w20.drew = w21 at BK217 HB hHeld ⊢
  refine pA HT_.out 0 24 12 1 ?_; refine pA HT_.out 1 25 12 3 ?_; refine pA HT_.out 3 27 12 11 ?_; refine pA HT_.out 7 31 12 139 ?_; refine tA HT_.out HW_.out 2 26 12 143 hHeld ?_; refine tA HT_.out HW_.out 4 28 12 159 hHeld ?_; refine tA HT_.out HW_.out 8 32 12 415 hHeld ?_
  refine oA HT_.out 5 (some 29) 12 447 (fun K hK => ?_)
  refine gX Try.func61 #[.int .i64 a0_1, .int .i64 a0_2] ?_
  with_reducible refine (spec_l07Hard.calls k a0_1 a0_2 t223 _ A9.out).mono ?_
  rintro e w22 ⟨rfl, hb⟩
  refine ⟨_, rfl, ?_⟩
  replace BK217 := blkB BK217 hb
  replace HB := aM (below_step (uL HB) hb)
  (try clear hb)
  (try clear hb2)
  (try clear hk)
  (try clear hi)
  refine hK.out _ _ ⟨(blk_cell BK217.out 0).trans rfl, (blk_cell BK217.out 1).trans rfl, (blk_cell BK217.out 2).trans rfl, (blk_cell BK217.out 3).trans rfl, (blk_cell BK217.out 4).trans rfl, (blk_cell BK217.out 5).trans rfl⟩ (fun hHeld => ?_)
  clear hK K
  refine nX 29 ?_; refine pA HT_.out 6 30 12 511 ?_
  refine oA HT_.out 9 (some 33) 12 1023 (fun K hK => ?_)
  refine gX Try.func62 #[.agg #[.int .i64 a0_3, .int .i64 a0_4, .slice A0_5 l0_5.length c0_5], .int .i64 0] ?_
  with_reducible refine (spec_l07Frames.calls k a0_3 a0_4 _ _ l0_5 0 t224 _ ?side1 ?side2 A11.out).mono ?_
  (case side1 => exact uC HR0_5 HB)
  (case side2 => exact HC0_5.out)
  rintro e w23 ⟨rfl, hb⟩
  refine ⟨_, rfl, ?_⟩
  replace BK217 := blkB BK217 hb
  replace HB := aM (below_step (uL HB) hb)
  (try clear hb)
  (try clear hb2)
  (try clear hk)
  (try clear hi)
  refine hK.out _ _ ⟨(blk_cell BK217.out 0).trans rfl, (blk_cell BK217.out 1).trans rfl, (blk_cell BK217.out 2).trans rfl, (blk_cell BK217.out 3).trans rfl, (blk_cell BK217.out 4).trans rfl, (blk_cell BK217.out 5).trans rfl⟩ (fun hHeld => ?_)
  clear hK K
  refine nX 33 ?_; refine pA HT_.out 10 34 12 2047 ?_; refine pA HT_.out 11 6 12 4095 ?_
  refine done_ (done_of HT_.out (by kernel_rfl)) ?_
  try go_wp2
  go_ret2
  exact rX HB

/-! ### impl_inRange: function 53 -/
def impl_inRange.f (a0 : Int) (a1 : Int) (a2 : Int) : Option (Bool) := if a0 ≥ a1 then (some (decide (a0 ≤ a2))) else (some false)
set_option maxHeartbeats 8000000 in
set_option maxRecDepth 100000 in
theorem impl_inRange.calls (a0 : Int) (a1 : Int) (a2 : Int) (r : Bool) (w : World) (h : impl_inRange.f a0 a1 a2 = some r) :
 Calls Try.prog 53 #[.int .i64 a0, .int .i64 a1, .int .i64 a2] w fun e w' => e = .returned (.bool r) ∧ Drawn0 w w' := by
 have H : (if a0 ≥ a1 then (some (decide (a0 ≤ a2))) else (some false)) = some r := h
 clear h
 by_cases c4 : a0 ≥ a1
 ·rw [if_pos c4] at H
  have c4b0 : decide (a1 ≤ a0) = true := decide_eq_true c4
  clear c4
  obtain rfl := Option.some.inj H
  go_enter Try.func53, Try.ntmps53
  go_wp2
  go_ret
  exact ⟨by first | rfl | (simp; done) | (simp [*]; done), by repeat (first | exact Drawn0.refl _ | apply Drawn0.step)⟩
 ·rw [if_neg c4] at H
  have c4b0 : decide (a1 ≤ a0) = false := decide_eq_false c4
  clear c4
  obtain rfl := Option.some.inj H
  go_enter Try.func53, Try.ntmps53
  go_wp2
  go_ret
  exact ⟨by first | rfl | (simp; done) | (simp [*]; done), by repeat (first | exact Drawn0.refl _ | apply Drawn0.step)⟩

/-! ### impl_isTerm: function 50 -/
def impl_isTerm.f (a0 : Int) : Option (Bool) := (impl_inRange.f a0 0 100000).bind fun t225 => (some t225)
set_option maxHeartbeats 8000000 in
set_option maxRecDepth 100000 in
theorem impl_isTerm.calls (a0 : Int) (r : Bool) (w : World) (h : impl_isTerm.f a0 = some r) :
 Calls Try.prog 50 #[.int .i64 a0] w fun e w' => e = .returned (.bool r) ∧ Drawn0 w w' := by
 have H : ((impl_inRange.f a0 0 100000).bind fun t225 => (some t225)) = some r := h
 clear h
 replace H := Option.bind_eq_some_iff.mp H
 obtain ⟨t225, A20, H⟩ := H
 replace H : (some t225) = some r := H
 have A2 := aM A20
 clear A20
 obtain rfl := Option.some.inj H
 go_enter Try.func50, Try.ntmps50
 go_wp2_with (first | ((with_reducible refine gate_callee (f := 53) rfl ?_); refine gL (some 4) Try.func53 #[.int .i64 a0, .int .i64 0, .int .i64 100000] ?_; (with_reducible refine (impl_inRange.calls a0 0 100000 t225 _ A2.out).mono ?_); rintro e w' ⟨rfl, ⟨nd, rfl⟩⟩; refine ⟨_, rfl, ?_⟩))
 go_ret
 exact ⟨by first | rfl | (simp; done) | (simp [*]; done), by repeat (first | exact Drawn0.refl _ | apply Drawn0.step)⟩

/-! ### impl_numbers: function 69 (given by the session) -/
def impl_numbers.f (a0 : ByteArray) : Option (List Int) := if a0.size < 17592186044416 then some (bytesOf a0) else none
set_option maxHeartbeats 2000000 in
set_option maxRecDepth 100000 in
theorem impl_numbers.calls (a0 : ByteArray) (r : List Int) (w : World) (h : impl_numbers.f a0 = some r) :
 Calls Try.prog 69 #[.string a0] w fun e w' => ∃ v0_ : Value, e = .returned (v0_) ∧ Kd.R (Kd.int .i64) 3 w' w.heap.size (fun _ => True) v0_ r ∧ Below w.heap.size w w' := by
 obtain ⟨s, rfl⟩ : ∃ s, s = a0 := ⟨_, rfl⟩
 unfold impl_numbers.f at h
 by_cases hs : s.size < 17592186044416
 case neg => rw [if_neg hs] at h; cases h
 rw [if_pos hs] at h
 obtain rfl := Option.some.inj h
 clear h
 have kb := fun W => print_bytes (P := Try.prog) 9 75 5 Try.underlying9 Try.underlying75 Try.underlying5 s W
 go_enter Try.func69, Try.ntmps69
 go_wp2
 go_loopw [3, 9] (fun v3 v9 wr => ∃ i : Nat, i ≤ s.size ∧ v9 = .int .i64 (i : Int) ∧ Aside0 (Kd.R (Kd.int .i64) 3 wr w.heap.size (fun _ => True) v3 ((bytesOf s).take i)) ∧ Aside0 (wr.heap[w.heap.size]? = (Lib.bytesWorld w 5 s).heap[w.heap.size]?) ∧ Aside0 (Below w.heap.size w wr)) (fun _ v9 _ => s.size - (intOf v9).toNat)
 case atStart => exact ⟨0, Nat.zero_le _, rfl, ⟨Kd.R_nil _ _ _ _ _⟩, ⟨rfl⟩, ⟨bytes_below (Below.refl _ _) (Nat.le_refl _) 5 s⟩⟩
 case round =>
  clear kb
  obtain ⟨i, hi, rfl, HO, HC, HB⟩ := hrel
  by_cases hlt : i < s.size
  ·have hx : wr.cell? ⟨w.heap.size, i, none⟩ = some (.int .u8 (rd (bytesOf s) (i : Int))) := by
    have h0 := Lib.bytesWorld_cell w 5 s i hlt
    have e : wr.cell? ⟨w.heap.size, i, none⟩ = (Lib.bytesWorld w 5 s).cell? ⟨w.heap.size, i, none⟩ := by
     unfold World.cell?
     rw [HC.out]
    rw [e, h0]
    have h' : i < s.data.toList.length := by rw [data_length]; exact hlt
    show some (Value.int .u8 _) = some (Value.int .u8 ((bytesOf s).getD i 0))
    simp [bytesOf, List.getD_eq_getElem?_getD, List.getElem?_eq_getElem h']
   have hz := bt_range s (i : Int)
   rw [← rd_bytesOf] at hz
   have hi' : i < (bytesOf s).length := by rw [bytesOf_length]; exact hlt
   have Htk : Aside0 ((bytesOf s).take (i + 1) = (bytesOf s).take i ++ [rd (bytesOf s) (i : Int)]) := ⟨by
    rw [List.take_succ_eq_append_getElem hi']
    show _ = _ ++ [(bytesOf s).getD i 0]
    rw [List.getD_eq_getElem?_getD, List.getElem?_eq_getElem hi']
    rfl⟩
   have HL : Aside0 (((bytesOf s).take i).length = i) := ⟨by rw [List.length_take]; omega⟩
   generalize rd (bytesOf s) (i : Int) = z at hx hz Htk
   obtain ⟨z0, z1⟩ := hz
   clear hi'
   go_wp2_with (first | ((with_reducible refine gate_builtin (b := .append) (xs := #[.tmp 13, .tmp 16]) rfl ?_); at_builtin; refine Kd.R_append (Kd.int .i64) (w0 := w) w.heap.size rfl (.tmp 13) (.tmp 16) 70 3 (.int .i64 0) 8 rfl Try.underlying70 info3 rfl (by decide) (by omega) u3 ((bytesOf s).take i) z [.int .i64 z] (fun _ => True) (fun _ => False) rfl rfl ?aP (fun _ hk => hk.elim) ?aF ?aO ?aB ?aS ?aL ?_; (case aP => exact rfl); (case aB => exact (by repeat (first | (with_reducible first | exact HB.out | apply below_alloc | apply pw_below_drewN | apply below_drew1) | exact HB.out))); (case aF => exact (fun _ _ => trivial)); (case aO => exact (by (with_reducible repeat (first | apply Kd.R_alloc | apply Kd.R_drewN | apply Kd.R_drew)); exact HO.out)); (case aS => exact (below_size (by repeat (first | (with_reducible first | exact HB.out | apply below_alloc | apply pw_below_drewN | apply below_drew1) | exact HB.out)))); (case aL => have := HL.out; omega); intro v127 w6 ho hb hg hat; rw [← Htk.out] at ho; have HO128 := Aside0.mk ho; have HB128 := Aside0.mk hb; have HG := Aside0.mk hg; clear ho hat hb hg))
   refine ⟨⟨i + 1, by omega, by simp, HO128, ⟨?_⟩, HB128⟩, by simp [intOf]; omega⟩
   have hnew := Lib.bytesWorld_at_new w 5 s
   have hlt' : w.heap.size < wr.heap.size := blk_lt (HC.out.trans hnew)
   have hne : some w.heap.size ≠ u3.ownBlock := by
    intro he
    obtain ⟨cells, hcells⟩ := Kd.R_typed HO.out w.heap.size he.symm
    rw [HC.out, hnew] at hcells
    injection hcells with hcells
    injection hcells with _ ht2
    exact absurd ht2 (by decide)
   have hb2 := HG.out.block w.heap.size (by first | exact hlt' | (simp; omega)) hne
   refine Eq.trans ?_ HC.out
   first | exact hb2 | (refine hb2.trans ?_; simp; first | done | (exact heap_alloc_old _ _ _ hlt') | (rw [Array.getElem?_push]; split; omega; rfl))
  ·obtain rfl : i = s.size := by omega
   go_wp2
   go_ret
   refine ⟨_, rfl, ?_, HB.out⟩
   have := HO.out
   rwa [List.take_of_length_le (by rw [bytesOf_length]; exact Nat.le_refl _)] at this

/-! ### impl_isNode: function 83 -/
def impl_isNode.f (a0 : Int) : Option (Bool) := (impl_inRange.f a0 1 4).bind fun t226 => (some t226)
set_option maxHeartbeats 8000000 in
set_option maxRecDepth 100000 in
theorem impl_isNode.calls (a0 : Int) (r : Bool) (w : World) (h : impl_isNode.f a0 = some r) :
 Calls Try.prog 83 #[.int .i64 a0] w fun e w' => e = .returned (.bool r) ∧ Drawn0 w w' := by
 have H : ((impl_inRange.f a0 1 4).bind fun t226 => (some t226)) = some r := h
 clear h
 replace H := Option.bind_eq_some_iff.mp H
 obtain ⟨t226, A20, H⟩ := H
 replace H : (some t226) = some r := H
 have A2 := aM A20
 clear A20
 obtain rfl := Option.some.inj H
 go_enter Try.func83, Try.ntmps83
 go_wp2_with (first | ((with_reducible refine gate_callee (f := 53) rfl ?_); refine gL (some 4) Try.func53 #[.int .i64 a0, .int .i64 1, .int .i64 4] ?_; (with_reducible refine (impl_inRange.calls a0 1 4 t226 _ A2.out).mono ?_); rintro e w' ⟨rfl, ⟨nd, rfl⟩⟩; refine ⟨_, rfl, ?_⟩))
 go_ret
 exact ⟨by first | rfl | (simp; done) | (simp [*]; done), by repeat (first | exact Drawn0.refl _ | apply Drawn0.step)⟩

end Go.Proofs.Ytacdceahdbaonaa.QFnExactJournalText
