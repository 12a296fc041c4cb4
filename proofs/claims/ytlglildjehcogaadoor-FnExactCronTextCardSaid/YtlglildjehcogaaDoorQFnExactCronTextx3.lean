-- Own work (wip/turnprint.py over the kit's print).
import Derived.Test.YtlglildjehcogaaDoorQFnExactCronTextx0
import Derived.Test.YtlglildjehcogaaDoorQFnExactCronTextx2
namespace Go.Proofs.YtlglildjehcogaaDoor.QFnExactCronText
open Go.RowKit Go.Proofs.YtlglildjehcogaaDoorW.PrintWords Go.Proofs.YtlglildjehcogaaDoorW.PrintLast Go.Proofs.YtlglildjehcogaaDoorW.PrintMore
attribute [local go_sem] max2_int min2_int max_two min_two max_three min_three max_four min_four   -- for this text's walks alone
set_option linter.unusedVariables false
set_option linter.unusedSimpArgs false

/-! ### impl_bounds: function 21 -/
def impl_bounds.f (a0 : Int) : Option (Int × Int) := if a0 = 0 then (some (0, 59)) else (if a0 = 1 then (some (0, 23)) else (if a0 = 2 then (some (1, 31)) else (if a0 = 3 then (some (1, 12)) else (some (0, 6)))))
set_option maxHeartbeats 8000000 in
set_option maxRecDepth 100000 in
theorem impl_bounds.calls (a0 : Int) (r1 : Int) (r2 : Int) (w : World) (h : impl_bounds.f a0 = some (r1, r2)) :
 Calls Tryd.prog 21 #[.int .i64 a0] w fun e w' => e = .returned (.tuple #[.int .i64 r1, .int .i64 r2]) ∧ Drawn0 w w' := by
 have H : (if a0 = 0 then (some (0, 59)) else (if a0 = 1 then (some (0, 23)) else (if a0 = 2 then (some (1, 31)) else (if a0 = 3 then (some (1, 12)) else (some (0, 6)))))) = some (r1, r2) := h
 clear h
 by_cases c2 : a0 = 0
 ·rw [if_pos c2] at H
  have c2b0 : (a0 == 0) = true := beq_iff_eq.mpr c2
  have c2b1 : (a0 != 0) = false := bne_eq_false_iff_eq.mpr c2
  clear c2
  simp only [Option.some.injEq, Prod.mk.injEq] at H
  obtain ⟨rfl, rfl⟩ := H
  go_enter Tryd.func21, Tryd.ntmps21
  go_wp2
  go_ret2
  exact ⟨by first | rfl | (simp; done) | (simp [*]; done), by repeat (first | exact Drawn0.refl _ | apply Drawn0.step)⟩
 ·rw [if_neg c2] at H
  have c2b0 : (a0 == 0) = false := beq_eq_false_iff_ne.mpr c2
  have c2b1 : (a0 != 0) = true := bne_iff_ne.mpr c2
  by_cases c3 : a0 = 1
  ·rw [if_pos c3] at H
   have c3b0 : (a0 == 1) = true := beq_iff_eq.mpr c3
   have c3b1 : (a0 != 1) = false := bne_eq_false_iff_eq.mpr c3
   clear c3
   simp only [Option.some.injEq, Prod.mk.injEq] at H
   obtain ⟨rfl, rfl⟩ := H
   go_enter Tryd.func21, Tryd.ntmps21
   go_wp2
   go_ret2
   exact ⟨by first | rfl | (simp; done) | (simp [*]; done), by repeat (first | exact Drawn0.refl _ | apply Drawn0.step)⟩
  ·rw [if_neg c3] at H
   have c3b0 : (a0 == 1) = false := beq_eq_false_iff_ne.mpr c3
   have c3b1 : (a0 != 1) = true := bne_iff_ne.mpr c3
   by_cases c4 : a0 = 2
   ·rw [if_pos c4] at H
    have c4b0 : (a0 == 2) = true := beq_iff_eq.mpr c4
    have c4b1 : (a0 != 2) = false := bne_eq_false_iff_eq.mpr c4
    clear c4
    simp only [Option.some.injEq, Prod.mk.injEq] at H
    obtain ⟨rfl, rfl⟩ := H
    go_enter Tryd.func21, Tryd.ntmps21
    go_wp2
    go_ret2
    exact ⟨by first | rfl | (simp; done) | (simp [*]; done), by repeat (first | exact Drawn0.refl _ | apply Drawn0.step)⟩
   ·rw [if_neg c4] at H
    have c4b0 : (a0 == 2) = false := beq_eq_false_iff_ne.mpr c4
    have c4b1 : (a0 != 2) = true := bne_iff_ne.mpr c4
    by_cases c5 : a0 = 3
    ·rw [if_pos c5] at H
     have c5b0 : (a0 == 3) = true := beq_iff_eq.mpr c5
     have c5b1 : (a0 != 3) = false := bne_eq_false_iff_eq.mpr c5
     clear c5
     simp only [Option.some.injEq, Prod.mk.injEq] at H
     obtain ⟨rfl, rfl⟩ := H
     go_enter Tryd.func21, Tryd.ntmps21
     go_wp2
     go_ret2
     exact ⟨by first | rfl | (simp; done) | (simp [*]; done), by repeat (first | exact Drawn0.refl _ | apply Drawn0.step)⟩
    ·rw [if_neg c5] at H
     have c5b0 : (a0 == 3) = false := beq_eq_false_iff_ne.mpr c5
     have c5b1 : (a0 != 3) = true := bne_iff_ne.mpr c5
     simp only [Option.some.injEq, Prod.mk.injEq] at H
     obtain ⟨rfl, rfl⟩ := H
     go_enter Tryd.func21, Tryd.ntmps21
     go_wp2
     go_ret2
     exact ⟨by first | rfl | (simp; done) | (simp [*]; done), by repeat (first | exact Drawn0.refl _ | apply Drawn0.step)⟩

/-! ### impl_isAll: function 15 -/
def impl_isAll.f (l0 : List Int) (a1 : Int) : Option (Bool) := (impl_bounds.f a1).bind fun bt159 => (some ((l0.length : Int) == (wrap64 ((wrap64 (bt159.2 - bt159.1)) + 1))))
set_option maxHeartbeats 8000000 in
set_option maxRecDepth 100000 in
theorem impl_isAll.calls (A0 : Option Addr) (c0 : Nat) (l0 : List Int) (a1 : Int) (r : Bool) (w : World) (hr0 : Kd.C (Kd.int .i64) w A0 l0.length l0) (hc0 : l0.length ≤ c0) (h : impl_isAll.f l0 a1 = some r) :
 Calls Tryd.prog 15 #[.slice A0 l0.length c0, .int .i64 a1] w fun e w' => e = .returned (.bool r) ∧ Drawn0 w w' := by
 have HR0 := aM hr0
 have HC0 := aM hc0
 clear hr0 hc0
 have H : ((impl_bounds.f a1).bind fun bt159 => (some ((l0.length : Int) == (wrap64 ((wrap64 (bt159.2 - bt159.1)) + 1))))) = some r := h
 clear h
 replace H := Option.bind_eq_some_iff.mp H
 obtain ⟨⟨t159, t160⟩, A30, H⟩ := H
 replace H : (some ((l0.length : Int) == (wrap64 ((wrap64 (t160 - t159)) + 1)))) = some r := H
 have A3 := aM A30
 clear A30
 obtain rfl := Option.some.inj H
 go_enter Tryd.func15, Tryd.ntmps15
 go_wp2_with (first | ((with_reducible refine gate_callee (f := 21) rfl ?_); refine gL (some 9) Tryd.func21 #[.int .i64 a1] ?_; (with_reducible refine (impl_bounds.calls a1 t159 t160 _ A3.out).mono ?_); rintro e w' ⟨rfl, ⟨nd, rfl⟩⟩; refine ⟨_, rfl, ?_⟩))
 go_ret
 exact ⟨by first | rfl | (simp; done) | (simp [*]; done), by repeat (first | exact Drawn0.refl _ | apply Drawn0.step)⟩

/-! ### impl_CronText: function 7 (given by the session) -/
/-- the figures of a small number -/
def impl_CronText.dec (x : Int) : ByteArray := ⟨(Lib.decDigits x.toNat).toArray⟩
def impl_CronText.join (sep : ByteArray) (xs : List ByteArray) : ByteArray := ⟨(Lib.join (xs.map (·.data.toList)) sep.data.toList).toArray⟩
def impl_CronText.size (i : Nat) : Nat := if i = 0 then 60 else if i = 1 then 24 else if i = 2 then 31 else if i = 3 then 12 else 7
def impl_CronText.show (i : Nat) (l : List Int) : ByteArray := if l.length = impl_CronText.size i then ⟨#[42]⟩ else impl_CronText.join ⟨#[44]⟩ (l.map impl_CronText.dec)
/-- numbers that are told by two figures at most, and not many -/
def impl_CronText.small (l : List Int) : Bool := l.all (fun x => decide (0 ≤ x) && decide (x < 100)) && decide (l.length ≤ 1000)
def impl_CronText.parts (L : Nat → List Int) (i : Nat) : List ByteArray := (List.range i).map (fun j => impl_CronText.show j (L j))
def impl_CronText.f (l0 l1 l2 l3 l4 : List Int) : Option (ByteArray × Bool) :=
 (impl_CronOk.f l0 l1 l2 l3 l4).bind fun t => if t = true then (if impl_CronText.small l0 = true ∧ impl_CronText.small l1 = true ∧ impl_CronText.small l2 = true ∧ impl_CronText.small l3 = true ∧ impl_CronText.small l4 = true then some (impl_CronText.join ⟨#[32]⟩ (impl_CronText.parts (impl_CronOk.nth l0 l1 l2 l3 l4) 5), true) else none) else some (⟨#[]⟩, false)
theorem impl_CronText.parts_succ (L : Nat → List Int) (i : Nat) : impl_CronText.parts L (i + 1) = impl_CronText.parts L i ++ [impl_CronText.show i (L i)] := by
 unfold impl_CronText.parts
 rw [List.range_succ, List.map_append]
 rfl
theorem impl_CronText.parts_length (L : Nat → List Int) (i : Nat) : (impl_CronText.parts L i).length = i := by simp [impl_CronText.parts]
theorem impl_CronText.digits_small : ∀ n, n < 100 → (Lib.decDigits n).length ≤ 2 := of_decide_eq_true (by kernel_rfl)
theorem impl_CronText.join_le (sep : List UInt8) : ∀ (xs : List (List UInt8)) (n m : Nat), sep.length ≤ m → (∀ x ∈ xs, x.length ≤ n) → (Lib.join xs sep).length ≤ xs.length * (n + m) := by
 intro xs
 induction xs with
 | nil => intro n m _ _; simp [Lib.join]
 | cons x xs ih =>
  intro n m hm h
  have h1 := h x (List.mem_cons_self ..)
  have h2 := ih n m hm (fun y hy => h y (List.mem_cons_of_mem _ hy))
  cases xs with
  | nil => simp [Lib.join]; omega
  | cons y ys =>
   have e : Lib.join (x :: y :: ys) sep = x ++ (sep ++ Lib.join (y :: ys) sep) := by simp [Lib.join, List.intercalate]
   rw [e, List.length_append, List.length_append, List.length_cons, Nat.succ_mul]
   omega
theorem impl_CronText.dec_le (x : Int) (h : x < 100) : (impl_CronText.dec x).data.toList.length ≤ 2 := by
 show (Lib.decDigits x.toNat).length ≤ 2
 exact impl_CronText.digits_small x.toNat (by omega)
theorem impl_CronText.decs_le (l : List Int) (h : ∀ x ∈ l, 0 ≤ x ∧ x < 100) : (Lib.join ((l.map impl_CronText.dec).map (·.data.toList)) [44]).length ≤ l.length * 3 := by
 have := impl_CronText.join_le [44] ((l.map impl_CronText.dec).map (·.data.toList)) 2 1 (by simp) (by
  intro x hx
  simp only [List.mem_map] at hx
  obtain ⟨y, ⟨z, hz, rfl⟩, rfl⟩ := hx
  exact impl_CronText.dec_le z (h z hz).2)
 simpa using this
theorem impl_CronText.show_le (i : Nat) (l : List Int) (h : ∀ x ∈ l, 0 ≤ x ∧ x < 100) (hl : l.length ≤ 1000) : (impl_CronText.show i l).data.toList.length ≤ 3000 := by
 unfold impl_CronText.show
 split
 ·simp
 ·have := impl_CronText.decs_le l h
  show (Lib.join ((l.map impl_CronText.dec).map (·.data.toList)) [44]).length ≤ 3000
  omega
theorem impl_CronText.small_mem {l : List Int} (h : impl_CronText.small l = true) : (∀ x ∈ l, 0 ≤ x ∧ x < 100) ∧ l.length ≤ 1000 := by
 unfold impl_CronText.small at h
 simp only [Bool.and_eq_true, List.all_eq_true, decide_eq_true_eq] at h
 exact h
theorem impl_CronText.decimal (x : Int) (h0 : 0 ≤ x) (h1 : x < 100) (w : World) : Calls Tryd.prog 16 #[.int .i64 x] w fun e w' => e = .returned (.string (impl_CronText.dec x)) ∧ w' = w := by
 obtain ⟨n, rfl⟩ := Int.eq_ofNat_of_zero_le h0
 go_enter Tryd.func16, Tryd.ntmps16
 go_wp2_with (go_at_call 23; refine (Tryd.strconv_Itoa_small n (by omega) _).mono ?_; rintro e w' ⟨rfl, rfl⟩)
 go_ret
 exact ⟨rfl, rfl⟩
theorem impl_CronText.eq_nat (n m : Nat) (x : Int) (hx : x = (m : Int)) : ((n : Int) == x) = decide (n = m) := by
 subst hx
 by_cases h : n = m
 ·subst h; simp
 ·rw [decide_eq_false h]
  exact beq_eq_false_iff_ne.2 (fun e => h (by omega))
theorem impl_CronText.isAll (L : Nat → List Int) (i : Nat) (hi : i < 5) : impl_isAll.f (L i) (i : Int) = some (decide ((L i).length = impl_CronText.size i)) := by
 obtain rfl | rfl | rfl | rfl | rfl : i = 0 ∨ i = 1 ∨ i = 2 ∨ i = 3 ∨ i = 4 := by omega
 ·exact congrArg some (impl_CronText.eq_nat _ 60 _ (by unfold wrap64; omega))
 ·exact congrArg some (impl_CronText.eq_nat _ 24 _ (by unfold wrap64; omega))
 ·exact congrArg some (impl_CronText.eq_nat _ 31 _ (by unfold wrap64; omega))
 ·exact congrArg some (impl_CronText.eq_nat _ 12 _ (by unfold wrap64; omega))
 ·exact congrArg some (impl_CronText.eq_nat _ 7 _ (by unfold wrap64; omega))
/-- a row of strings of one's own, handed to strings.Join -/
theorem impl_CronText.joined (base : Nat) (v : Value) (xs : List ByteArray) (sep : ByteArray) (w : World) (h : Kd.R Kd.string 9 w base (fun _ => True) v xs) (hN : xs.length ≤ 1000) (hlen : (Lib.join (xs.map (·.data.toList)) sep.data.toList).length ≤ 140737488355328) :
 Calls Tryd.prog 17 #[v, .string sep] w fun e w' => e = .returned (.string (impl_CronText.join sep xs)) ∧ Below w.heap.size w w' := by
 cases hxs : xs with
 | nil =>
  subst hxs
  obtain ⟨A, c, rfl⟩ := Kd.R_slice h
  refine (Tryd.strings_Join_none A c sep w).mono ?_
  rintro e w' ⟨rfl, rfl⟩
  exact ⟨rfl, Below.refl _ _⟩
 | cons x0 r0 =>
  rw [← hxs]
  have hpos : 0 < xs.length := by rw [hxs]; simp
  obtain ⟨inner, ho⟩ := Kd.R_own h
  obtain ⟨g, c, rfl, _, hg⟩ := World.ownsRow.form ho hpos
  have hcap := (Kd.R_reads' h).2.1
  refine Tryd.strings_Join g 0 c xs sep w (fun j x hj => ?_) hg (by omega) hcap hlen
  have hlt : j < xs.length := (List.getElem?_eq_some_iff.1 hj).1
  have hc := (Kd.R_cell (d := ByteArray.empty) h (j : Int) (by omega) (by omega)).1
  have e : rdOf ByteArray.empty xs (j : Int) = x := by
   show xs.getD j ByteArray.empty = x
   rw [List.getD_eq_getElem?_getD, hj]
   rfl
  rw [e, Int.toNat_natCast] at hc
  rw [Nat.zero_add]
  exact hc
theorem impl_CronText.meas {n j : Nat} {a b : Value} (ha : (intOf a).toNat = j + 1) (hb : (intOf b).toNat = j) (h : j < n) : n - (intOf a).toNat < n - (intOf b).toNat := by
 rw [ha, hb]
 omega
theorem impl_CronText.info9 : (Tryd.prog.info? 9).map (fun i => (i.zero, i.size, i.bytes)) = some (some (.string ⟨#[]⟩), 1, 16) := by kernel_rfl
theorem impl_CronText.row_at {W W' : World} {g : Nat} {l : List Int} {i : Nat} (h : impl_CronOk.Row W g l i) (hb : Below W.heap.size W W') : impl_CronOk.Row W' g l i := by
 obtain ⟨A, c, h1, h2, h3⟩ := h
 exact ⟨A, c, (hb.cell (World.block_lt_of_cell? W _ h1)).trans h1, h2, Kd.C_below h3 hb⟩
set_option maxHeartbeats 8000000 in
set_option maxRecDepth 100000 in
theorem impl_CronText.calls (A0 : Option Addr) (c0 : Nat) (l0 : List Int) (A1 : Option Addr) (c1 : Nat) (l1 : List Int) (A2 : Option Addr) (c2 : Nat) (l2 : List Int) (A3 : Option Addr) (c3 : Nat) (l3 : List Int) (A4 : Option Addr) (c4 : Nat) (l4 : List Int) (r1 : ByteArray) (r2 : Bool) (w : World)
 (hr0 : Kd.C (Kd.int .i64) w A0 l0.length l0) (hc0 : l0.length ≤ c0) (hr1 : Kd.C (Kd.int .i64) w A1 l1.length l1) (hc1 : l1.length ≤ c1) (hr2 : Kd.C (Kd.int .i64) w A2 l2.length l2) (hc2 : l2.length ≤ c2) (hr3 : Kd.C (Kd.int .i64) w A3 l3.length l3) (hc3 : l3.length ≤ c3) (hr4 : Kd.C (Kd.int .i64) w A4 l4.length l4) (hc4 : l4.length ≤ c4)
 (h : impl_CronText.f l0 l1 l2 l3 l4 = some (r1, r2)) :
 Calls Tryd.prog 7 #[.agg #[.slice A0 l0.length c0, .slice A1 l1.length c1, .slice A2 l2.length c2, .slice A3 l3.length c3, .slice A4 l4.length c4]] w fun e w' => e = .returned (.tuple #[.string r1, .bool r2]) ∧ Below w.heap.size w w' := by
 have HB0 := aM (Below.refl w.heap.size w)
 obtain ⟨t, hok, H⟩ := Option.bind_eq_some_iff.mp h
 clear h
 have HR0 := aM hr0
 have HR1 := aM hr1
 have HR2 := aM hr2
 have HR3 := aM hr3
 have HR4 := aM hr4
 have HC := aM (⟨hc0, hc1, hc2, hc3, hc4⟩ : l0.length ≤ c0 ∧ l1.length ≤ c1 ∧ l2.length ≤ c2 ∧ l3.length ≤ c3 ∧ l4.length ≤ c4)
 have HOK := aM hok
 clear hr0 hr1 hr2 hr3 hr4 hc0 hc1 hc2 hc3 hc4 hok
 cases t with
 | false =>
  rw [if_neg (by decide)] at H
  obtain ⟨rfl, rfl⟩ : (⟨#[]⟩ : ByteArray) = r1 ∧ false = r2 := by simpa using H
  clear H
  go_enter Tryd.func7, Tryd.ntmps7
  go_wp2_with (first | ((with_reducible refine gate_dst (N := 1) rfl ?_); refine bxE 1 #[.slice A0 l0.length c0, .slice A1 l1.length c1, .slice A2 l2.length c2, .slice A3 l3.length c3, .slice A4 l4.length c4] 28 ?_; intro gb hg w2 hbox hb; have HB2 := aM hb; have BK := aM hbox; clear hb hbox hg; have hz0 := czA BK.out 0 (.slice A0 l0.length c0); have hz1 := czA BK.out 1 (.slice A1 l1.length c1); have hz2 := czA BK.out 2 (.slice A2 l2.length c2); have hz3 := czA BK.out 3 (.slice A3 l3.length c3); have hz4 := czA BK.out 4 (.slice A4 l4.length c4)) | (go_at_call 13; refine (impl_CronOk.calls A0 c0 l0 A1 c1 l1 A2 c2 l2 A3 c3 l3 A4 c4 l4 false _ (Kd.C_below HR0.out HB2.out) HC.out.1 (Kd.C_below HR1.out HB2.out) HC.out.2.1 (Kd.C_below HR2.out HB2.out) HC.out.2.2.1 (Kd.C_below HR3.out HB2.out) HC.out.2.2.2.1 (Kd.C_below HR4.out HB2.out) HC.out.2.2.2.2 HOK.out).mono ?_; rintro e w3 ⟨rfl, hb3⟩; have HB3 := aM (below_step HB2.out hb3); clear hb3))
  go_ret2
  exact ⟨rfl, HB3.out⟩
 | true =>
  rw [if_pos rfl] at H
  by_cases hsm : impl_CronText.small l0 = true ∧ impl_CronText.small l1 = true ∧ impl_CronText.small l2 = true ∧ impl_CronText.small l3 = true ∧ impl_CronText.small l4 = true
  case neg => rw [if_neg hsm] at H; cases H
  rw [if_pos hsm] at H
  obtain ⟨h1, rfl⟩ : impl_CronText.join ⟨#[32]⟩ (impl_CronText.parts (impl_CronOk.nth l0 l1 l2 l3 l4) 5) = r1 ∧ true = r2 := by simpa using H
  have HR := aM h1
  have HS := aM (show ∀ i, i < 5 → (∀ x ∈ impl_CronOk.nth l0 l1 l2 l3 l4 i, 0 ≤ x ∧ x < 100) ∧ (impl_CronOk.nth l0 l1 l2 l3 l4 i).length ≤ 1000 by
   intro i hi
   obtain rfl | rfl | rfl | rfl | rfl : i = 0 ∨ i = 1 ∨ i = 2 ∨ i = 3 ∨ i = 4 := by omega
   ·exact impl_CronText.small_mem hsm.1
   ·exact impl_CronText.small_mem hsm.2.1
   ·exact impl_CronText.small_mem hsm.2.2.1
   ·exact impl_CronText.small_mem hsm.2.2.2.1
   ·exact impl_CronText.small_mem hsm.2.2.2.2)
  clear H h1 hsm
  go_enter Tryd.func7, Tryd.ntmps7
  go_wp2_with (first | ((with_reducible refine gate_dst (N := 1) rfl ?_); refine bxE 1 #[.slice A0 l0.length c0, .slice A1 l1.length c1, .slice A2 l2.length c2, .slice A3 l3.length c3, .slice A4 l4.length c4] 28 ?_; intro gb hg w2 hbox hb; have HB2 := aM hb; have BK := aM hbox; clear hb hbox hg; have hz0 := czA BK.out 0 (.slice A0 l0.length c0); have hz1 := czA BK.out 1 (.slice A1 l1.length c1); have hz2 := czA BK.out 2 (.slice A2 l2.length c2); have hz3 := czA BK.out 3 (.slice A3 l3.length c3); have hz4 := czA BK.out 4 (.slice A4 l4.length c4)) | (go_at_call 13; refine (impl_CronOk.calls A0 c0 l0 A1 c1 l1 A2 c2 l2 A3 c3 l3 A4 c4 l4 true _ (Kd.C_below HR0.out HB2.out) HC.out.1 (Kd.C_below HR1.out HB2.out) HC.out.2.1 (Kd.C_below HR2.out HB2.out) HC.out.2.2.1 (Kd.C_below HR3.out HB2.out) HC.out.2.2.2.1 (Kd.C_below HR4.out HB2.out) HC.out.2.2.2.2 HOK.out).mono ?_; rintro e w3 ⟨rfl, hb3⟩; have HB3 := aM (below_step HB2.out hb3); have BK3 := aM (blk_below BK.out hb3); clear hb3) | (go_at_call 14; refine (impl_CronOk.fields _ _).mono ?_; rintro e w4 ⟨rfl, hb4⟩; have HB4 := aM (below_step HB3.out hb4); have BK4 := aM (blk_below BK3.out hb4); clear hb4))
  have HRow := aM (show ∀ i, i < 5 → impl_CronOk.Row w4 gb (impl_CronOk.nth l0 l1 l2 l3 l4 i) i by
   have b : ∀ {A n l}, Kd.C (Kd.int .i64) w A n l → Kd.C (Kd.int .i64) w4 A n l := fun h => Kd.C_below h HB4.out
   intro i hi
   obtain rfl | rfl | rfl | rfl | rfl : i = 0 ∨ i = 1 ∨ i = 2 ∨ i = 3 ∨ i = 4 := by omega
   ·exact ⟨_, _, (blk_cell BK4.out 0).trans rfl, HC.out.1, b HR0.out⟩
   ·exact ⟨_, _, (blk_cell BK4.out 1).trans rfl, HC.out.2.1, b HR1.out⟩
   ·exact ⟨_, _, (blk_cell BK4.out 2).trans rfl, HC.out.2.2.1, b HR2.out⟩
   ·exact ⟨_, _, (blk_cell BK4.out 3).trans rfl, HC.out.2.2.2.1, b HR3.out⟩
   ·exact ⟨_, _, (blk_cell BK4.out 4).trans rfl, HC.out.2.2.2.2, b HR4.out⟩)
  clear HR0 HR1 HR2 HR3 HR4 HC HOK BK BK3 BK4 HB2 HB3 HB0
  generalize impl_CronOk.nth l0 l1 l2 l3 l4 = L at HRow HR HS
  go_loopw [4, 14] (fun v4 v14 wr => ∃ i : Nat, i ≤ 5 ∧ v14 = .int .i64 (i : Int) ∧ Aside0 (Kd.R Kd.string 9 wr w4.heap.size (fun _ => True) v4 (impl_CronText.parts L i)) ∧ Aside0 (Below w4.heap.size w4 wr)) (fun v4 v14 wr => 5 - (intOf v14).toNat)
  case atStart => exact ⟨0, by omega, rfl, ⟨Kd.R_nil _ _ _ _ _⟩, ⟨Below.refl _ _⟩⟩
  case round =>
   obtain ⟨i, hi, rfl, HO, HW⟩ := hrel
   obtain ⟨wo, rfl⟩ : ∃ z, z = wr := ⟨_, rfl⟩
   by_cases hlt : i < 5
   ·have hix := impl_CronOk.index5 gb i hlt
    obtain ⟨A, c, hcell, hc, hC⟩ := impl_CronText.row_at (HRow.out i hlt) HW.out
    have HCC := aM hC
    have HCL := aM hc
    have hS := HS.out i hlt
    have HA := aM (impl_CronText.isAll L i hlt)
    clear hC hc
    by_cases hall : (L i).length = impl_CronText.size i
    ·rw [decide_eq_true hall] at HA
     have HP := aM (show impl_CronText.parts L i ++ [(⟨#[42]⟩ : ByteArray)] = impl_CronText.parts L (i + 1) by rw [impl_CronText.parts_succ, impl_CronText.show, if_pos hall])
     have HN := aM (show ((impl_CronText.parts L i).length + 1) * 16 ≤ 140737488355328 by rw [impl_CronText.parts_length]; omega)
     clear hall hS
     go_wp2_with (first | (go_at_call 15; refine (impl_isAll.calls _ _ _ _ true _ HCC.out HCL.out HA.out).mono ?_; rintro e w5 ⟨rfl, ⟨nd, rfl⟩⟩) | ((with_reducible refine gate_builtin (b := .append) (xs := #[.tmp 23, .tmp 24]) rfl ?_); at_builtin; refine Kd.R_append Kd.string (w0 := w4) w4.heap.size rfl (.tmp 23) (.tmp 24) 36 9 (.string ⟨#[]⟩) 16 rfl Tryd.underlying36 impl_CronText.info9 rfl (by decide) (by omega) _ (impl_CronText.parts L i) (⟨#[42]⟩ : ByteArray) [.string (⟨#[42]⟩ : ByteArray)] (fun _ => True) (fun _ => False) rfl rfl ?aP (fun _ hk => hk.elim) ?aF ?aO ?aB ?aS HN.out ?_; (case aP => exact rfl); (case aB => exact (uL HW)); (case aF => exact fun _ _ => trivial); (case aO => exact (uR HO)); (case aS => exact (show w4.heap.size ≤ _ from HW.out.size)); intro v6 w6 ho hb hg hat; rw [HP.out] at ho; have HO6 := aM ho; have HW6 := aM hb; clear ho hb hg hat))
     refine ⟨⟨i + 1, by omega, by rw [show (i : Int) + 1 = ((i + 1 : Nat) : Int) by omega], HO6, HW6⟩, ?_⟩
     simp only [intOf]
     omega
    ·rw [decide_eq_false hall] at HA
     have HP := aM (show impl_CronText.parts L i ++ [impl_CronText.join ⟨#[44]⟩ ((L i).map impl_CronText.dec)] = impl_CronText.parts L (i + 1) by rw [impl_CronText.parts_succ, impl_CronText.show, if_neg hall])
     have HN := aM (show ((impl_CronText.parts L i).length + 1) * 16 ≤ 140737488355328 by rw [impl_CronText.parts_length]; omega)
     have HSI := aM hS
     clear hall hS
     go_wp2_with (first | (go_at_call 15; refine (impl_isAll.calls _ _ _ _ false _ HCC.out HCL.out HA.out).mono ?_; rintro e w5 ⟨rfl, ⟨nd, rfl⟩⟩))
     go_loopw [7, 30] (fun v7 v30 wr => ∃ j : Nat, j ≤ (L i).length ∧ v30 = .int .i64 (j : Int) ∧ Aside0 (Kd.R Kd.string 9 wr wo.heap.size (fun _ => True) v7 (((L i).take j).map impl_CronText.dec)) ∧ Aside0 (Below wo.heap.size wo wr)) (fun v7 v30 wr => (L i).length - (intOf v30).toNat)
     case atStart => exact ⟨0, Nat.zero_le _, rfl, ⟨Kd.R_nil _ _ _ _ _⟩, ⟨uL (aM (Below.refl wo.heap.size wo))⟩⟩
     case round =>
      obtain ⟨j, hj, rfl, HF, HQ⟩ := hrel
      by_cases hjl : j < (L i).length
      ·obtain ⟨ad, eA, hxx⟩ := Kd.at_int (Kd.C_below HCC.out HQ.out) (j : Int) (by omega) (by omega)
       subst eA
       have hx : wr.cell? (ad.add j) = some (.int .i64 ((L i).getD j 0)) := hxx
       clear hxx
       obtain ⟨x, hxv⟩ : ∃ x, x = (L i).getD j 0 := ⟨_, rfl⟩
       have hmem : x ∈ L i := by
        rw [hxv, List.getD_eq_getElem?_getD, List.getElem?_eq_getElem hjl]
        exact List.getElem_mem _
       have HX0 := aM (HSI.out.1 x hmem)
       have HT := aM (show ((L i).take j).map impl_CronText.dec ++ [impl_CronText.dec x] = ((L i).take (j + 1)).map impl_CronText.dec by
        rw [List.take_succ_eq_append_getElem hjl, List.map_append, hxv, List.getD_eq_getElem?_getD, List.getElem?_eq_getElem hjl]
        rfl)
       have HNF := aM (show ((((L i).take j).map impl_CronText.dec).length + 1) * 16 ≤ 140737488355328 by rw [List.length_map, List.length_take]; have := HSI.out.2; omega)
       rw [← hxv] at hx
       clear hxv hmem
       have hLb : (L i).length ≤ 1000 := HSI.out.2
       have c1 : decide ((j : Int) < ((L i).length : Int)) = true := decide_eq_true (by omega)
       have p1 : (0 ≤ (j : Int)) = True := eq_true (by omega)
       have q1 : ((j : Int) < ((L i).length : Int)) = True := eq_true (by omega)
       go_wp2_with (first | (go_at_call 16; refine (impl_CronText.decimal x HX0.out.1 HX0.out.2 _).mono ?_; rintro e w' ⟨rfl, rfl⟩) | ((with_reducible refine gate_builtin (b := .append) (xs := #[.tmp 34, .tmp 37]) rfl ?_); at_builtin; refine Kd.R_append Kd.string (w0 := wo) wo.heap.size rfl (.tmp 34) (.tmp 37) 36 9 (.string ⟨#[]⟩) 16 rfl Tryd.underlying36 impl_CronText.info9 rfl (by decide) (by omega) _ (((L i).take j).map impl_CronText.dec) (impl_CronText.dec x) [.string (impl_CronText.dec x)] (fun _ => True) (fun _ => False) rfl rfl ?aP (fun _ hk => hk.elim) ?aF ?aO ?aB ?aS HNF.out ?_; (case aP => exact rfl); (case aB => exact (uL HQ)); (case aF => exact fun _ _ => trivial); (case aO => exact (uR HF)); (case aS => exact (show wo.heap.size ≤ _ from HQ.out.size)); intro v6 w6 ho hb hg hat; rw [HT.out] at ho; have HF6 := aM ho; have HQ6 := aM hb; clear ho hb hg hat))
       refine ⟨⟨j + 1, by omega, by rw [show (j : Int) + 1 = ((j + 1 : Nat) : Int) by omega], HF6, HQ6⟩, ?_⟩
       simp only [intOf]
       omega
      ·obtain rfl : j = (L i).length := by omega
       have HF2 := aM (show Kd.R Kd.string 9 wr wo.heap.size (fun _ => True) _ ((L i).map impl_CronText.dec) by have h := HF.out; rw [List.take_length] at h; exact h)
       have HJL := aM (show ((L i).map impl_CronText.dec).length ≤ 1000 by rw [List.length_map]; exact HSI.out.2)
       have HJ := aM (show (Lib.join (((L i).map impl_CronText.dec).map (·.data.toList)) (⟨#[44]⟩ : ByteArray).data.toList).length ≤ 140737488355328 by
        have h1 := impl_CronText.decs_le (L i) HSI.out.1
        have h2 := HSI.out.2
        show (Lib.join (((L i).map impl_CronText.dec).map (·.data.toList)) [44]).length ≤ _
        omega)
       have c1 : decide (((L i).length : Int) < ((L i).length : Int)) = false := decide_eq_false (by omega)
       go_wp2_with (first | (go_at_call 17; refine (impl_CronText.joined wo.heap.size _ _ _ _ HF2.out HJL.out HJ.out).mono ?_; rintro e w7 ⟨rfl, hb7⟩; have HQ7 := aM (below_step HQ.out hb7); clear hb7) | ((with_reducible refine gate_builtin (b := .append) (xs := #[.tmp 40, .tmp 43]) rfl ?_); at_builtin; refine Kd.R_append Kd.string (w0 := w4) w4.heap.size rfl (.tmp 40) (.tmp 43) 36 9 (.string ⟨#[]⟩) 16 rfl Tryd.underlying36 impl_CronText.info9 rfl (by decide) (by omega) _ (impl_CronText.parts L i) (impl_CronText.join ⟨#[44]⟩ ((L i).map impl_CronText.dec)) [.string (impl_CronText.join ⟨#[44]⟩ ((L i).map impl_CronText.dec))] (fun _ => True) (fun _ => False) rfl rfl ?aP (fun _ hk => hk.elim) ?aF ?aO ?aB ?aS HN.out ?_; (case aP => exact rfl); (case aB => exact (below_step HW.out HQ7.out)); (case aF => exact fun _ _ => trivial); (case aO => exact (Kd.R_below HO.out HQ7.out)); (case aS => exact (show w4.heap.size ≤ _ from ((below_step HW.out HQ7.out)).size)); intro v8 w8 ho hb hg hat; rw [HP.out] at ho; have HO8 := aM ho; have HW8 := aM hb; clear ho hb hg hat))
       refine ⟨⟨i + 1, by omega, by rw [show (i : Int) + 1 = ((i + 1 : Nat) : Int) by omega], HO8, HW8⟩, ?_⟩
       simp only [intOf]
       omega
   ·obtain rfl : i = 5 := by omega
    have HJ := aM (show (Lib.join ((impl_CronText.parts L 5).map (·.data.toList)) (⟨#[32]⟩ : ByteArray).data.toList).length ≤ 140737488355328 by
     have := impl_CronText.join_le [32] ((impl_CronText.parts L 5).map (·.data.toList)) 3000 1 (by simp) (by
      intro x hx
      simp only [impl_CronText.parts, List.mem_map, List.mem_range] at hx
      obtain ⟨y, ⟨j, hj, rfl⟩, rfl⟩ := hx
      exact impl_CronText.show_le j (L j) (HS.out j hj).1 (HS.out j hj).2)
     rw [List.length_map, impl_CronText.parts_length] at this
     show (Lib.join ((impl_CronText.parts L 5).map (·.data.toList)) [32]).length ≤ _
     omega)
    have HL5 := aM (show (impl_CronText.parts L 5).length ≤ 1000 by rw [impl_CronText.parts_length]; omega)
    go_wp2_with (first | (go_at_call 17; refine (impl_CronText.joined w4.heap.size _ _ _ _ HO.out HL5.out HJ.out).mono ?_; rintro e w7 ⟨rfl, hb7⟩; have HW7 := aM (below_step HW.out hb7); clear hb7))
    go_ret2
    exact ⟨congrArg (fun z => Ending.returned (Value.tuple #[Value.string z, Value.bool true])) HR.out, below_step HB4.out HW7.out⟩

/-! ### laws_eqIntS: function 18 -/
def laws_eqIntS.l0 : Nat → List Int → List Int → Int → Option (Bool)
 | 0, _, _, _ => none
 | k + 1, x0, x1, x5 => if x5 < (x0.length : Int) then (if 0 ≤ x5 then (if x5 < (x1.length : Int) then (if (rd x0 x5) = (rd x1 x5) then (laws_eqIntS.l0 k x0 x1 (wrap64 (x5 + 1))) else (some false)) else (none)) else (none)) else (some true)
def laws_eqIntS.f (k : Nat) (l0 : List Int) (l1 : List Int) : Option (Bool) := if (l0.length : Int) = (l1.length : Int) then (laws_eqIntS.l0 k l0 l1 0) else (some false)
theorem laws_eqIntS.mono_l : ∀ k, (∀ y0 y1 y2, LeO (laws_eqIntS.l0 k y0 y1 y2) (laws_eqIntS.l0 (k + 1) y0 y1 y2))
 | 0 => fun _ _ _ r h => by simp [laws_eqIntS.l0] at h
 | k + 1 => by
  have ih0 := laws_eqIntS.mono_l k
  ·intro y0 y1 y2
   unfold laws_eqIntS.l0
   repeat' first
   | (with_reducible exact ih0 _ _ _)
   | (with_reducible exact LeO.refl _)
   | (with_reducible exact LeO.none _)
   | (with_reducible refine LeO.ite ?_ ?_)
   | (with_reducible refine LeO.bind ?_ (fun _ => ?_))
   | exact ih0 _ _ _
   | exact LeO.none _
   | refine LeO.ite ?_ ?_
   | refine LeO.bind ?_ (fun _ => ?_)
theorem laws_eqIntS.mono : ∀ a0 a1 k, LeO (laws_eqIntS.f k a0 a1) (laws_eqIntS.f (k + 1) a0 a1) := by
 intro a0 a1 k
 have ih0 := laws_eqIntS.mono_l k
 unfold laws_eqIntS.f
 repeat' first
  | (with_reducible exact ih0 _ _ _)
  | (with_reducible exact LeO.refl _)
  | (with_reducible exact LeO.none _)
  | (with_reducible refine LeO.ite ?_ ?_)
  | (with_reducible refine LeO.bind ?_ (fun _ => ?_))
  | exact ih0 _ _ _
  | exact LeO.none _
  | refine LeO.ite ?_ ?_
  | refine LeO.bind ?_ (fun _ => ?_)
set_option maxHeartbeats 8000000 in
set_option maxRecDepth 100000 in
theorem laws_eqIntS.calls (k : Nat) (A0 : Option Addr) (c0 : Nat) (l0 : List Int) (A1 : Option Addr) (c1 : Nat) (l1 : List Int) (r : Bool) (w : World) (hr0 : Kd.C (Kd.int .i64) w A0 l0.length l0) (hc0 : l0.length ≤ c0) (hr1 : Kd.C (Kd.int .i64) w A1 l1.length l1) (hc1 : l1.length ≤ c1) (h : laws_eqIntS.f k l0 l1 = some r) :
 Calls Tryd.prog 18 #[.slice A0 l0.length c0, .slice A1 l1.length c1] w fun e w' => e = .returned (.bool r) ∧ Drawn0 w w' := by
 have HR0 := aM hr0
 have HC0 := aM hc0
 clear hr0 hc0
 have HR1 := aM hr1
 have HC1 := aM hc1
 clear hr1 hc1
 have H : (if (l0.length : Int) = (l1.length : Int) then (laws_eqIntS.l0 k l0 l1 0) else (some false)) = some r := h
 clear h
 by_cases c3 : (l0.length : Int) = (l1.length : Int)
 ·rw [if_pos c3] at H
  have c3b0 : ((l0.length : Int) == (l1.length : Int)) = true := beq_iff_eq.mpr c3
  have c3b1 : ((l0.length : Int) != (l1.length : Int)) = false := bne_eq_false_iff_eq.mpr c3
  have c3b2 : (l0.length == l1.length) = true := by first | simpa using c3 | (simp at c3 ⊢; omega)
  clear c3
  have H' := aM H
  clear H
  go_enter Tryd.func18, Tryd.ntmps18
  go_wp2
  repeat (go_quiet (fail); try go_wp2)
  go_loopg [5] k (fun kq v5 w' => ∃ (x5_1 : Int), v5 = .int .i64 x5_1 ∧ Aside0 (laws_eqIntS.l0 kq l0 l1 x5_1 = some r) ∧ Aside0 (kq ≤ k) ∧ Drawn0 w w')
  case atStart => exact ⟨(0), (by first | rfl | (simp; done) | (simp [*]; done)), H', ⟨Nat.le_refl _⟩, by repeat (first | exact Drawn0.refl _ | apply Drawn0.step)⟩
  case round =>
   clear H'
   try clear c1; try clear p2; try clear c3; try clear c3b0; try clear c3b1; try clear c3b2
   obtain ⟨x5_1, rfl, HA, HK1, ⟨m1, rfl⟩⟩ := hrel
   cases gk with
   | zero => exact absurd HA.out (by simp [laws_eqIntS.l0])
   | succ k1 =>
    have H := HA.out
    clear HA
    simp only [laws_eqIntS.l0] at H
    by_cases c4 : x5_1 < (l0.length : Int)
    ·rw [if_pos c4] at H
     have c4b0 : decide (x5_1 < (l0.length : Int)) = true := decide_eq_true c4
     clear c4
     by_cases c5 : 0 ≤ x5_1
     ·rw [if_pos c5] at H
      have c5b0 : decide (0 ≤ x5_1) = true := decide_eq_true c5
      clear c5
      by_cases c6 : x5_1 < (l1.length : Int)
      ·rw [if_pos c6] at H
       have c6b0 : decide (x5_1 < (l1.length : Int)) = true := decide_eq_true c6
       clear c6
       by_cases c7 : (rd l0 x5_1) = (rd l1 x5_1)
       ·rw [if_pos c7] at H
        have c7b0 : ((rd l0 x5_1) == (rd l1 x5_1)) = true := beq_iff_eq.mpr c7
        have c7b1 : ((rd l0 x5_1) != (rd l1 x5_1)) = false := bne_eq_false_iff_eq.mpr c7
        clear c7
        have H' := aM H
        clear H
        have p161 : 0 ≤ (x5_1 : Int) := of_decide_eq_true (by first | (with_reducible assumption) | assumption)
        have q161 : x5_1 < (l0.length : Int) := of_decide_eq_true (by first | (with_reducible assumption) | assumption)
        obtain ⟨ad161, e161, hx161_0⟩ := Kd.at_int HR0.out x5_1 p161 q161
        cases e161
        replace p161 := eq_true p161; replace q161 := eq_true q161
        have p162 : 0 ≤ (x5_1 : Int) := of_decide_eq_true (by first | (with_reducible assumption) | assumption)
        have q162 : x5_1 < (l1.length : Int) := of_decide_eq_true (by first | (with_reducible assumption) | assumption)
        obtain ⟨ad162, e162, hx162_0⟩ := Kd.at_int HR1.out x5_1 p162 q162
        cases e162
        replace p162 := eq_true p162; replace q162 := eq_true q162
        go_wp2
        repeat (go_quiet (fail); try go_wp2)
        go_roundg k1
        case measure => have := HK1.out; omega
        case rel => exact ⟨(wrap64 (x5_1 + 1)), (by first | rfl | (simp; done) | (simp [*]; done)), H', ⟨by have := HK1.out; omega⟩, by repeat (first | exact Drawn0.refl _ | apply Drawn0.step)⟩
       ·rw [if_neg c7] at H
        have c7b0 : ((rd l0 x5_1) == (rd l1 x5_1)) = false := beq_eq_false_iff_ne.mpr c7
        have c7b1 : ((rd l0 x5_1) != (rd l1 x5_1)) = true := bne_iff_ne.mpr c7
        obtain rfl := Option.some.inj H
        have p161 : 0 ≤ (x5_1 : Int) := of_decide_eq_true (by first | (with_reducible assumption) | assumption)
        have q161 : x5_1 < (l0.length : Int) := of_decide_eq_true (by first | (with_reducible assumption) | assumption)
        obtain ⟨ad161, e161, hx161_0⟩ := Kd.at_int HR0.out x5_1 p161 q161
        cases e161
        replace p161 := eq_true p161; replace q161 := eq_true q161
        have p162 : 0 ≤ (x5_1 : Int) := of_decide_eq_true (by first | (with_reducible assumption) | assumption)
        have q162 : x5_1 < (l1.length : Int) := of_decide_eq_true (by first | (with_reducible assumption) | assumption)
        obtain ⟨ad162, e162, hx162_0⟩ := Kd.at_int HR1.out x5_1 p162 q162
        cases e162
        replace p162 := eq_true p162; replace q162 := eq_true q162
        go_wp2
        repeat (go_quiet (fail); try go_wp2)
        go_ret
        exact ⟨by first | rfl | (simp; done) | (simp [*]; done), by repeat (first | exact Drawn0.refl _ | apply Drawn0.step)⟩
      ·rw [if_neg c6] at H
       exact absurd H (by simp)
     ·rw [if_neg c5] at H
      exact absurd H (by simp)
    ·rw [if_neg c4] at H
     have c4b0 : decide (x5_1 < (l0.length : Int)) = false := decide_eq_false c4
     clear c4
     obtain rfl := Option.some.inj H
     go_wp2
     repeat (go_quiet (fail); try go_wp2)
     go_ret
     exact ⟨by first | rfl | (simp; done) | (simp [*]; done), by repeat (first | exact Drawn0.refl _ | apply Drawn0.step)⟩
 ·rw [if_neg c3] at H
  have c3b0 : ((l0.length : Int) == (l1.length : Int)) = false := beq_eq_false_iff_ne.mpr c3
  have c3b1 : ((l0.length : Int) != (l1.length : Int)) = true := bne_iff_ne.mpr c3
  have c3b2 : (l0.length == l1.length) = false := by first | simpa using c3 | (simp at c3 ⊢; omega)
  obtain rfl := Option.some.inj H
  go_enter Tryd.func18, Tryd.ntmps18
  go_wp2
  repeat (go_quiet (fail); try go_wp2)
  go_ret
  exact ⟨by first | rfl | (simp; done) | (simp [*]; done), by repeat (first | exact Drawn0.refl _ | apply Drawn0.step)⟩

/-! ### laws_eqCron: function 8 -/
def laws_eqCron.f (k : Nat) (l0_0 : List Int) (l0_1 : List Int) (l0_2 : List Int) (l0_3 : List Int) (l0_4 : List Int) (l1_0 : List Int) (l1_1 : List Int) (l1_2 : List Int) (l1_3 : List Int) (l1_4 : List Int) : Option (Bool) := (laws_eqIntS.f k l0_0 l1_0).bind fun t165 => (if t165 = true then ((laws_eqIntS.f k l0_1 l1_1).bind fun t166 => (if t166 = true then ((laws_eqIntS.f k l0_2 l1_2).bind fun t167 => (if t167 = true then ((laws_eqIntS.f k l0_3 l1_3).bind fun t168 => (if t168 = true then ((laws_eqIntS.f k l0_4 l1_4).bind fun t169 => (if t169 = true then (some true) else (some false))) else (some false))) else (some false))) else (some false))) else (some false))
theorem laws_eqCron.mono : ∀ a0 a1 a2 a3 a4 a5 a6 a7 a8 a9 k, LeO (laws_eqCron.f k a0 a1 a2 a3 a4 a5 a6 a7 a8 a9) (laws_eqCron.f (k + 1) a0 a1 a2 a3 a4 a5 a6 a7 a8 a9) := by
 intro a0 a1 a2 a3 a4 a5 a6 a7 a8 a9 k
 unfold laws_eqCron.f
 repeat' first
  | (with_reducible exact laws_eqIntS.mono _ _ _)
  | (with_reducible exact LeO.refl _)
  | (with_reducible exact LeO.none _)
  | (with_reducible refine LeO.ite ?_ ?_)
  | (with_reducible refine LeO.bind ?_ (fun _ => ?_))
  | exact laws_eqIntS.mono _ _ _
  | exact LeO.none _
  | refine LeO.ite ?_ ?_
  | refine LeO.bind ?_ (fun _ => ?_)
set_option maxHeartbeats 8000000 in
set_option maxRecDepth 100000 in
theorem laws_eqCron.calls (k : Nat) (A0_0 : Option Addr) (c0_0 : Nat) (l0_0 : List Int) (A0_1 : Option Addr) (c0_1 : Nat) (l0_1 : List Int) (A0_2 : Option Addr) (c0_2 : Nat) (l0_2 : List Int) (A0_3 : Option Addr) (c0_3 : Nat) (l0_3 : List Int) (A0_4 : Option Addr) (c0_4 : Nat) (l0_4 : List Int) (A1_0 : Option Addr) (c1_0 : Nat) (l1_0 : List Int) (A1_1 : Option Addr) (c1_1 : Nat) (l1_1 : List Int) (A1_2 : Option Addr) (c1_2 : Nat) (l1_2 : List Int) (A1_3 : Option Addr) (c1_3 : Nat) (l1_3 : List Int) (A1_4 : Option Addr) (c1_4 : Nat) (l1_4 : List Int) (r : Bool) (w : World) (hr0_0 : Kd.C (Kd.int .i64) w A0_0 l0_0.length l0_0) (hc0_0 : l0_0.length ≤ c0_0) (hr0_1 : Kd.C (Kd.int .i64) w A0_1 l0_1.length l0_1) (hc0_1 : l0_1.length ≤ c0_1) (hr0_2 : Kd.C (Kd.int .i64) w A0_2 l0_2.length l0_2) (hc0_2 : l0_2.length ≤ c0_2) (hr0_3 : Kd.C (Kd.int .i64) w A0_3 l0_3.length l0_3) (hc0_3 : l0_3.length ≤ c0_3) (hr0_4 : Kd.C (Kd.int .i64) w A0_4 l0_4.length l0_4) (hc0_4 : l0_4.length ≤ c0_4) (hr1_0 : Kd.C (Kd.int .i64) w A1_0 l1_0.length l1_0) (hc1_0 : l1_0.length ≤ c1_0) (hr1_1 : Kd.C (Kd.int .i64) w A1_1 l1_1.length l1_1) (hc1_1 : l1_1.length ≤ c1_1) (hr1_2 : Kd.C (Kd.int .i64) w A1_2 l1_2.length l1_2) (hc1_2 : l1_2.length ≤ c1_2) (hr1_3 : Kd.C (Kd.int .i64) w A1_3 l1_3.length l1_3) (hc1_3 : l1_3.length ≤ c1_3) (hr1_4 : Kd.C (Kd.int .i64) w A1_4 l1_4.length l1_4) (hc1_4 : l1_4.length ≤ c1_4) (h : laws_eqCron.f k l0_0 l0_1 l0_2 l0_3 l0_4 l1_0 l1_1 l1_2 l1_3 l1_4 = some r) :
 Calls Tryd.prog 8 #[.agg #[.slice A0_0 l0_0.length c0_0, .slice A0_1 l0_1.length c0_1, .slice A0_2 l0_2.length c0_2, .slice A0_3 l0_3.length c0_3, .slice A0_4 l0_4.length c0_4], .agg #[.slice A1_0 l1_0.length c1_0, .slice A1_1 l1_1.length c1_1, .slice A1_2 l1_2.length c1_2, .slice A1_3 l1_3.length c1_3, .slice A1_4 l1_4.length c1_4]] w fun e w' => e = .returned (.bool r) ∧ Below w.heap.size w w' := by
 have hu28 := Tryd.underlying28
 have HR0_0 := aM hr0_0
 have HC0_0 := aM hc0_0
 clear hr0_0 hc0_0
 have HR0_1 := aM hr0_1
 have HC0_1 := aM hc0_1
 clear hr0_1 hc0_1
 have HR0_2 := aM hr0_2
 have HC0_2 := aM hc0_2
 clear hr0_2 hc0_2
 have HR0_3 := aM hr0_3
 have HC0_3 := aM hc0_3
 clear hr0_3 hc0_3
 have HR0_4 := aM hr0_4
 have HC0_4 := aM hc0_4
 clear hr0_4 hc0_4
 have HR1_0 := aM hr1_0
 have HC1_0 := aM hc1_0
 clear hr1_0 hc1_0
 have HR1_1 := aM hr1_1
 have HC1_1 := aM hc1_1
 clear hr1_1 hc1_1
 have HR1_2 := aM hr1_2
 have HC1_2 := aM hc1_2
 clear hr1_2 hc1_2
 have HR1_3 := aM hr1_3
 have HC1_3 := aM hc1_3
 clear hr1_3 hc1_3
 have HR1_4 := aM hr1_4
 have HC1_4 := aM hc1_4
 clear hr1_4 hc1_4
 have HB := aM (Below.refl w.heap.size w)
 have H : ((laws_eqIntS.f k l0_0 l1_0).bind fun t165 => (if t165 = true then ((laws_eqIntS.f k l0_1 l1_1).bind fun t166 => (if t166 = true then ((laws_eqIntS.f k l0_2 l1_2).bind fun t167 => (if t167 = true then ((laws_eqIntS.f k l0_3 l1_3).bind fun t168 => (if t168 = true then ((laws_eqIntS.f k l0_4 l1_4).bind fun t169 => (if t169 = true then (some true) else (some false))) else (some false))) else (some false))) else (some false))) else (some false))) = some r := h
 clear h
 replace H := Option.bind_eq_some_iff.mp H
 obtain ⟨t165, A30, H⟩ := H
 try dsimp only at H
 have A3 := aM A30
 clear A30
 refine Classical.byCases (p := t165 = true) (fun c4 => ?L1p) (fun c4 => ?L1n)
 case' L1p =>
  subst c4
  rw [if_pos rfl] at H
  replace H := Option.bind_eq_some_iff.mp H
  obtain ⟨t166, A50, H⟩ := H
  try dsimp only at H
  have A5 := aM A50
  clear A50
  refine Classical.byCases (p := t166 = true) (fun c6 => ?L2p) (fun c6 => ?L2n)
  case' L2p =>
   subst c6
   rw [if_pos rfl] at H
   replace H := Option.bind_eq_some_iff.mp H
   obtain ⟨t167, A70, H⟩ := H
   try dsimp only at H
   have A7 := aM A70
   clear A70
   refine Classical.byCases (p := t167 = true) (fun c8 => ?L3p) (fun c8 => ?L3n)
   case' L3p =>
    subst c8
    rw [if_pos rfl] at H
    replace H := Option.bind_eq_some_iff.mp H
    obtain ⟨t168, A90, H⟩ := H
    try dsimp only at H
    have A9 := aM A90
    clear A90
    refine Classical.byCases (p := t168 = true) (fun c10 => ?L4p) (fun c10 => ?L4n)
    case' L4p =>
     subst c10
     have H1 : ((laws_eqIntS.f k l0_4 l1_4).bind fun t169 => (if t169 = true then (some true) else (some false))) = some r := by rw [if_pos rfl] at H; exact H
     clear H; have H := H1; clear H1
     replace H := Option.bind_eq_some_iff.mp H
     obtain ⟨t169, A110, H⟩ := H
     replace H : (if t169 = true then (some true) else (some false)) = some r := H
     have A11 := aM A110
     clear A110
     refine Classical.byCases (p := t169 = true) (fun c12 => ?L5p) (fun c12 => ?L5n)
     case' L5p =>
      subst c12
      have H1 : (some true) = some r := by rw [if_pos rfl] at H; exact H
      clear H; have H := H1; clear H1
      obtain rfl := Option.some.inj H
     case' L5n =>
      replace c12 := Bool.eq_false_iff.mpr c12
      subst c12
      have H1 : (some false) = some r := by rw [if_neg (show ¬ (false = true) by decide)] at H; exact H
      clear H; have H := H1; clear H1
      obtain rfl := Option.some.inj H
    case' L4n =>
     replace c10 := Bool.eq_false_iff.mpr c10
     subst c10
     have H1 : (some false) = some r := by rw [if_neg (show ¬ (false = true) by decide)] at H; exact H
     clear H; have H := H1; clear H1
     obtain rfl := Option.some.inj H
     go_enter Tryd.func8, Tryd.ntmps8
     go_wp2_with (first | ((with_reducible refine gate_dst (N := 2) rfl ?_); refine bxE 2 #[.slice A0_0 l0_0.length c0_0, .slice A0_1 l0_1.length c0_1, .slice A0_2 l0_2.length c0_2, .slice A0_3 l0_3.length c0_3, .slice A0_4 l0_4.length c0_4] 28 ?_; intro gb163 hg w23 hbox hb; have BK163 := aM (hbox); have GW163 := szG hg (uL HB); have GE163 := szG hg (uL HB); replace HB := aM (below_step (uL HB) hb); clear hb hbox hg) | ((with_reducible refine gate_dst (N := 3) rfl ?_); refine bxE 3 #[.slice A1_0 l1_0.length c1_0, .slice A1_1 l1_1.length c1_1, .slice A1_2 l1_2.length c1_2, .slice A1_3 l1_3.length c1_3, .slice A1_4 l1_4.length c1_4] 28 ?_; intro gb164 hg w24 hbox hb; have BK164 := aM (hbox); have GW164 := szG hg (uL HB); have GE164 := szG hg (uL HB); have NB163_164 := neL hg BK163; have NB164_163 := neG hg BK163; replace BK163 := blkB BK163 hb; replace HB := aM (below_step (uL HB) hb); clear hb hbox hg; have hnb25 := NB163_164.out; have hnc25 := NB164_163.out; have hcz26_0 := czA BK163.out 0 (.slice A0_0 l0_0.length c0_0); have hcz26_1 := czA BK163.out 1 (.slice A0_1 l0_1.length c0_1); have hcz26_2 := czA BK163.out 2 (.slice A0_2 l0_2.length c0_2); have hcz26_3 := czA BK163.out 3 (.slice A0_3 l0_3.length c0_3); have hcz26_4 := czA BK163.out 4 (.slice A0_4 l0_4.length c0_4); have hfz26_0 := blk_frozen BK163.out 0; have hfz26_1 := blk_frozen BK163.out 1; have hfz26_2 := blk_frozen BK163.out 2; have hfz26_3 := blk_frozen BK163.out 3; have hfz26_4 := blk_frozen BK163.out 4; have hcz27_0 := czA BK164.out 0 (.slice A1_0 l1_0.length c1_0); have hcz27_1 := czA BK164.out 1 (.slice A1_1 l1_1.length c1_1); have hcz27_2 := czA BK164.out 2 (.slice A1_2 l1_2.length c1_2); have hcz27_3 := czA BK164.out 3 (.slice A1_3 l1_3.length c1_3); have hcz27_4 := czA BK164.out 4 (.slice A1_4 l1_4.length c1_4); have hfz27_0 := blk_frozen BK164.out 0; have hfz27_1 := blk_frozen BK164.out 1; have hfz27_2 := blk_frozen BK164.out 2; have hfz27_3 := blk_frozen BK164.out 3; have hfz27_4 := blk_frozen BK164.out 4) | ((with_reducible refine gate_callee (f := 18) rfl ?_); refine gL (some 9) Tryd.func18 #[.slice A0_0 l0_0.length c0_0, .slice A1_0 l1_0.length c1_0] ?_; (with_reducible refine (laws_eqIntS.calls k _ _ l0_0 _ _ l1_0 true _ ?side1 ?side2 ?side3 ?side4 A3.out).mono ?_); (case side1 => exact uC HR0_0 HB); (case side2 => exact HC0_0.out); (case side3 => exact uC HR1_0 HB); (case side4 => exact HC1_0.out); rintro e w' ⟨rfl, ⟨nd, rfl⟩⟩; refine ⟨_, rfl, ?_⟩) | ((with_reducible refine gate_callee (f := 18) rfl ?_); refine gL (some 15) Tryd.func18 #[.slice A0_1 l0_1.length c0_1, .slice A1_1 l1_1.length c1_1] ?_; (with_reducible refine (laws_eqIntS.calls k _ _ l0_1 _ _ l1_1 true _ ?side1 ?side2 ?side3 ?side4 A5.out).mono ?_); (case side1 => repeat (first | exact (Kd.C_below HR0_1.out (uL HB)) | (with_reducible refine cA ?_ _) | (with_reducible refine cN ?_ _) | (with_reducible refine cD ?_))); (case side2 => exact HC0_1.out); (case side3 => repeat (first | exact (Kd.C_below HR1_1.out (uL HB)) | (with_reducible refine cA ?_ _) | (with_reducible refine cN ?_ _) | (with_reducible refine cD ?_))); (case side4 => exact HC1_1.out); rintro e w' ⟨rfl, ⟨nd, rfl⟩⟩; refine ⟨_, rfl, ?_⟩) | ((with_reducible refine gate_callee (f := 18) rfl ?_); refine gL (some 21) Tryd.func18 #[.slice A0_2 l0_2.length c0_2, .slice A1_2 l1_2.length c1_2] ?_; (with_reducible refine (laws_eqIntS.calls k _ _ l0_2 _ _ l1_2 true _ ?side1 ?side2 ?side3 ?side4 A7.out).mono ?_); (case side1 => repeat (first | exact (Kd.C_below HR0_2.out (uL HB)) | (with_reducible refine cA ?_ _) | (with_reducible refine cN ?_ _) | (with_reducible refine cD ?_))); (case side2 => exact HC0_2.out); (case side3 => repeat (first | exact (Kd.C_below HR1_2.out (uL HB)) | (with_reducible refine cA ?_ _) | (with_reducible refine cN ?_ _) | (with_reducible refine cD ?_))); (case side4 => exact HC1_2.out); rintro e w' ⟨rfl, ⟨nd, rfl⟩⟩; refine ⟨_, rfl, ?_⟩) | ((with_reducible refine gate_callee (f := 18) rfl ?_); refine gL (some 27) Tryd.func18 #[.slice A0_3 l0_3.length c0_3, .slice A1_3 l1_3.length c1_3] ?_; (with_reducible refine (laws_eqIntS.calls k _ _ l0_3 _ _ l1_3 false _ ?side1 ?side2 ?side3 ?side4 A9.out).mono ?_); (case side1 => repeat (first | exact (Kd.C_below HR0_3.out (uL HB)) | (with_reducible refine cA ?_ _) | (with_reducible refine cN ?_ _) | (with_reducible refine cD ?_))); (case side2 => exact HC0_3.out); (case side3 => repeat (first | exact (Kd.C_below HR1_3.out (uL HB)) | (with_reducible refine cA ?_ _) | (with_reducible refine cN ?_ _) | (with_reducible refine cD ?_))); (case side4 => exact HC1_3.out); rintro e w' ⟨rfl, ⟨nd, rfl⟩⟩; refine ⟨_, rfl, ?_⟩))
     go_ret
     exact rX HB
   case' L3n =>
    replace c8 := Bool.eq_false_iff.mpr c8
    subst c8
    have H1 : (some false) = some r := by rw [if_neg (show ¬ (false = true) by decide)] at H; exact H
    clear H; have H := H1; clear H1
    obtain rfl := Option.some.inj H
    go_enter Tryd.func8, Tryd.ntmps8
    go_wp2_with (first | ((with_reducible refine gate_dst (N := 2) rfl ?_); refine bxE 2 #[.slice A0_0 l0_0.length c0_0, .slice A0_1 l0_1.length c0_1, .slice A0_2 l0_2.length c0_2, .slice A0_3 l0_3.length c0_3, .slice A0_4 l0_4.length c0_4] 28 ?_; intro gb163 hg w28 hbox hb; have BK163 := aM (hbox); have GW163 := szG hg (uL HB); have GE163 := szG hg (uL HB); replace HB := aM (below_step (uL HB) hb); clear hb hbox hg) | ((with_reducible refine gate_dst (N := 3) rfl ?_); refine bxE 3 #[.slice A1_0 l1_0.length c1_0, .slice A1_1 l1_1.length c1_1, .slice A1_2 l1_2.length c1_2, .slice A1_3 l1_3.length c1_3, .slice A1_4 l1_4.length c1_4] 28 ?_; intro gb164 hg w29 hbox hb; have BK164 := aM (hbox); have GW164 := szG hg (uL HB); have GE164 := szG hg (uL HB); have NB163_164 := neL hg BK163; have NB164_163 := neG hg BK163; replace BK163 := blkB BK163 hb; replace HB := aM (below_step (uL HB) hb); clear hb hbox hg; have hnb30 := NB163_164.out; have hnc30 := NB164_163.out; have hcz31_0 := czA BK163.out 0 (.slice A0_0 l0_0.length c0_0); have hcz31_1 := czA BK163.out 1 (.slice A0_1 l0_1.length c0_1); have hcz31_2 := czA BK163.out 2 (.slice A0_2 l0_2.length c0_2); have hcz31_3 := czA BK163.out 3 (.slice A0_3 l0_3.length c0_3); have hcz31_4 := czA BK163.out 4 (.slice A0_4 l0_4.length c0_4); have hfz31_0 := blk_frozen BK163.out 0; have hfz31_1 := blk_frozen BK163.out 1; have hfz31_2 := blk_frozen BK163.out 2; have hfz31_3 := blk_frozen BK163.out 3; have hfz31_4 := blk_frozen BK163.out 4; have hcz32_0 := czA BK164.out 0 (.slice A1_0 l1_0.length c1_0); have hcz32_1 := czA BK164.out 1 (.slice A1_1 l1_1.length c1_1); have hcz32_2 := czA BK164.out 2 (.slice A1_2 l1_2.length c1_2); have hcz32_3 := czA BK164.out 3 (.slice A1_3 l1_3.length c1_3); have hcz32_4 := czA BK164.out 4 (.slice A1_4 l1_4.length c1_4); have hfz32_0 := blk_frozen BK164.out 0; have hfz32_1 := blk_frozen BK164.out 1; have hfz32_2 := blk_frozen BK164.out 2; have hfz32_3 := blk_frozen BK164.out 3; have hfz32_4 := blk_frozen BK164.out 4) | ((with_reducible refine gate_callee (f := 18) rfl ?_); refine gL (some 9) Tryd.func18 #[.slice A0_0 l0_0.length c0_0, .slice A1_0 l1_0.length c1_0] ?_; (with_reducible refine (laws_eqIntS.calls k _ _ l0_0 _ _ l1_0 true _ ?side1 ?side2 ?side3 ?side4 A3.out).mono ?_); (case side1 => exact uC HR0_0 HB); (case side2 => exact HC0_0.out); (case side3 => exact uC HR1_0 HB); (case side4 => exact HC1_0.out); rintro e w' ⟨rfl, ⟨nd, rfl⟩⟩; refine ⟨_, rfl, ?_⟩) | ((with_reducible refine gate_callee (f := 18) rfl ?_); refine gL (some 15) Tryd.func18 #[.slice A0_1 l0_1.length c0_1, .slice A1_1 l1_1.length c1_1] ?_; (with_reducible refine (laws_eqIntS.calls k _ _ l0_1 _ _ l1_1 true _ ?side1 ?side2 ?side3 ?side4 A5.out).mono ?_); (case side1 => repeat (first | exact (Kd.C_below HR0_1.out (uL HB)) | (with_reducible refine cA ?_ _) | (with_reducible refine cN ?_ _) | (with_reducible refine cD ?_))); (case side2 => exact HC0_1.out); (case side3 => repeat (first | exact (Kd.C_below HR1_1.out (uL HB)) | (with_reducible refine cA ?_ _) | (with_reducible refine cN ?_ _) | (with_reducible refine cD ?_))); (case side4 => exact HC1_1.out); rintro e w' ⟨rfl, ⟨nd, rfl⟩⟩; refine ⟨_, rfl, ?_⟩) | ((with_reducible refine gate_callee (f := 18) rfl ?_); refine gL (some 21) Tryd.func18 #[.slice A0_2 l0_2.length c0_2, .slice A1_2 l1_2.length c1_2] ?_; (with_reducible refine (laws_eqIntS.calls k _ _ l0_2 _ _ l1_2 false _ ?side1 ?side2 ?side3 ?side4 A7.out).mono ?_); (case side1 => repeat (first | exact (Kd.C_below HR0_2.out (uL HB)) | (with_reducible refine cA ?_ _) | (with_reducible refine cN ?_ _) | (with_reducible refine cD ?_))); (case side2 => exact HC0_2.out); (case side3 => repeat (first | exact (Kd.C_below HR1_2.out (uL HB)) | (with_reducible refine cA ?_ _) | (with_reducible refine cN ?_ _) | (with_reducible refine cD ?_))); (case side4 => exact HC1_2.out); rintro e w' ⟨rfl, ⟨nd, rfl⟩⟩; refine ⟨_, rfl, ?_⟩))
    go_ret
    exact rX HB
  case' L2n =>
   replace c6 := Bool.eq_false_iff.mpr c6
   subst c6
   have H1 : (some false) = some r := by rw [if_neg (show ¬ (false = true) by decide)] at H; exact H
   clear H; have H := H1; clear H1
   obtain rfl := Option.some.inj H
   go_enter Tryd.func8, Tryd.ntmps8
   go_wp2_with (first | ((with_reducible refine gate_dst (N := 2) rfl ?_); refine bxE 2 #[.slice A0_0 l0_0.length c0_0, .slice A0_1 l0_1.length c0_1, .slice A0_2 l0_2.length c0_2, .slice A0_3 l0_3.length c0_3, .slice A0_4 l0_4.length c0_4] 28 ?_; intro gb163 hg w33 hbox hb; have BK163 := aM (hbox); have GW163 := szG hg (uL HB); have GE163 := szG hg (uL HB); replace HB := aM (below_step (uL HB) hb); clear hb hbox hg) | ((with_reducible refine gate_dst (N := 3) rfl ?_); refine bxE 3 #[.slice A1_0 l1_0.length c1_0, .slice A1_1 l1_1.length c1_1, .slice A1_2 l1_2.length c1_2, .slice A1_3 l1_3.length c1_3, .slice A1_4 l1_4.length c1_4] 28 ?_; intro gb164 hg w34 hbox hb; have BK164 := aM (hbox); have GW164 := szG hg (uL HB); have GE164 := szG hg (uL HB); have NB163_164 := neL hg BK163; have NB164_163 := neG hg BK163; replace BK163 := blkB BK163 hb; replace HB := aM (below_step (uL HB) hb); clear hb hbox hg; have hnb35 := NB163_164.out; have hnc35 := NB164_163.out; have hcz36_0 := czA BK163.out 0 (.slice A0_0 l0_0.length c0_0); have hcz36_1 := czA BK163.out 1 (.slice A0_1 l0_1.length c0_1); have hcz36_2 := czA BK163.out 2 (.slice A0_2 l0_2.length c0_2); have hcz36_3 := czA BK163.out 3 (.slice A0_3 l0_3.length c0_3); have hcz36_4 := czA BK163.out 4 (.slice A0_4 l0_4.length c0_4); have hfz36_0 := blk_frozen BK163.out 0; have hfz36_1 := blk_frozen BK163.out 1; have hfz36_2 := blk_frozen BK163.out 2; have hfz36_3 := blk_frozen BK163.out 3; have hfz36_4 := blk_frozen BK163.out 4; have hcz37_0 := czA BK164.out 0 (.slice A1_0 l1_0.length c1_0); have hcz37_1 := czA BK164.out 1 (.slice A1_1 l1_1.length c1_1); have hcz37_2 := czA BK164.out 2 (.slice A1_2 l1_2.length c1_2); have hcz37_3 := czA BK164.out 3 (.slice A1_3 l1_3.length c1_3); have hcz37_4 := czA BK164.out 4 (.slice A1_4 l1_4.length c1_4); have hfz37_0 := blk_frozen BK164.out 0; have hfz37_1 := blk_frozen BK164.out 1; have hfz37_2 := blk_frozen BK164.out 2; have hfz37_3 := blk_frozen BK164.out 3; have hfz37_4 := blk_frozen BK164.out 4) | ((with_reducible refine gate_callee (f := 18) rfl ?_); refine gL (some 9) Tryd.func18 #[.slice A0_0 l0_0.length c0_0, .slice A1_0 l1_0.length c1_0] ?_; (with_reducible refine (laws_eqIntS.calls k _ _ l0_0 _ _ l1_0 true _ ?side1 ?side2 ?side3 ?side4 A3.out).mono ?_); (case side1 => exact uC HR0_0 HB); (case side2 => exact HC0_0.out); (case side3 => exact uC HR1_0 HB); (case side4 => exact HC1_0.out); rintro e w' ⟨rfl, ⟨nd, rfl⟩⟩; refine ⟨_, rfl, ?_⟩) | ((with_reducible refine gate_callee (f := 18) rfl ?_); refine gL (some 15) Tryd.func18 #[.slice A0_1 l0_1.length c0_1, .slice A1_1 l1_1.length c1_1] ?_; (with_reducible refine (laws_eqIntS.calls k _ _ l0_1 _ _ l1_1 false _ ?side1 ?side2 ?side3 ?side4 A5.out).mono ?_); (case side1 => repeat (first | exact (Kd.C_below HR0_1.out (uL HB)) | (with_reducible refine cA ?_ _) | (with_reducible refine cN ?_ _) | (with_reducible refine cD ?_))); (case side2 => exact HC0_1.out); (case side3 => repeat (first | exact (Kd.C_below HR1_1.out (uL HB)) | (with_reducible refine cA ?_ _) | (with_reducible refine cN ?_ _) | (with_reducible refine cD ?_))); (case side4 => exact HC1_1.out); rintro e w' ⟨rfl, ⟨nd, rfl⟩⟩; refine ⟨_, rfl, ?_⟩))
   go_ret
   exact rX HB
 case' L1n =>
  replace c4 := Bool.eq_false_iff.mpr c4
  subst c4
  have H1 : (some false) = some r := by rw [if_neg (show ¬ (false = true) by decide)] at H; exact H
  clear H; have H := H1; clear H1
  obtain rfl := Option.some.inj H
  go_enter Tryd.func8, Tryd.ntmps8
  go_wp2_with (first | ((with_reducible refine gate_dst (N := 2) rfl ?_); refine bxE 2 #[.slice A0_0 l0_0.length c0_0, .slice A0_1 l0_1.length c0_1, .slice A0_2 l0_2.length c0_2, .slice A0_3 l0_3.length c0_3, .slice A0_4 l0_4.length c0_4] 28 ?_; intro gb163 hg w38 hbox hb; have BK163 := aM (hbox); have GW163 := szG hg (uL HB); have GE163 := szG hg (uL HB); replace HB := aM (below_step (uL HB) hb); clear hb hbox hg) | ((with_reducible refine gate_dst (N := 3) rfl ?_); refine bxE 3 #[.slice A1_0 l1_0.length c1_0, .slice A1_1 l1_1.length c1_1, .slice A1_2 l1_2.length c1_2, .slice A1_3 l1_3.length c1_3, .slice A1_4 l1_4.length c1_4] 28 ?_; intro gb164 hg w39 hbox hb; have BK164 := aM (hbox); have GW164 := szG hg (uL HB); have GE164 := szG hg (uL HB); have NB163_164 := neL hg BK163; have NB164_163 := neG hg BK163; replace BK163 := blkB BK163 hb; replace HB := aM (below_step (uL HB) hb); clear hb hbox hg; have hnb40 := NB163_164.out; have hnc40 := NB164_163.out; have hcz41_0 := czA BK163.out 0 (.slice A0_0 l0_0.length c0_0); have hcz41_1 := czA BK163.out 1 (.slice A0_1 l0_1.length c0_1); have hcz41_2 := czA BK163.out 2 (.slice A0_2 l0_2.length c0_2); have hcz41_3 := czA BK163.out 3 (.slice A0_3 l0_3.length c0_3); have hcz41_4 := czA BK163.out 4 (.slice A0_4 l0_4.length c0_4); have hfz41_0 := blk_frozen BK163.out 0; have hfz41_1 := blk_frozen BK163.out 1; have hfz41_2 := blk_frozen BK163.out 2; have hfz41_3 := blk_frozen BK163.out 3; have hfz41_4 := blk_frozen BK163.out 4; have hcz42_0 := czA BK164.out 0 (.slice A1_0 l1_0.length c1_0); have hcz42_1 := czA BK164.out 1 (.slice A1_1 l1_1.length c1_1); have hcz42_2 := czA BK164.out 2 (.slice A1_2 l1_2.length c1_2); have hcz42_3 := czA BK164.out 3 (.slice A1_3 l1_3.length c1_3); have hcz42_4 := czA BK164.out 4 (.slice A1_4 l1_4.length c1_4); have hfz42_0 := blk_frozen BK164.out 0; have hfz42_1 := blk_frozen BK164.out 1; have hfz42_2 := blk_frozen BK164.out 2; have hfz42_3 := blk_frozen BK164.out 3; have hfz42_4 := blk_frozen BK164.out 4) | ((with_reducible refine gate_callee (f := 18) rfl ?_); refine gL (some 9) Tryd.func18 #[.slice A0_0 l0_0.length c0_0, .slice A1_0 l1_0.length c1_0] ?_; (with_reducible refine (laws_eqIntS.calls k _ _ l0_0 _ _ l1_0 false _ ?side1 ?side2 ?side3 ?side4 A3.out).mono ?_); (case side1 => exact uC HR0_0 HB); (case side2 => exact HC0_0.out); (case side3 => exact uC HR1_0 HB); (case side4 => exact HC1_0.out); rintro e w' ⟨rfl, ⟨nd, rfl⟩⟩; refine ⟨_, rfl, ?_⟩))
  go_ret
  exact rX HB
 case L5p | L5n =>
  go_enter Tryd.func8, Tryd.ntmps8
  go_wp2_with (first | ((with_reducible refine gate_dst (N := 2) rfl ?_); refine bxE 2 #[.slice A0_0 l0_0.length c0_0, .slice A0_1 l0_1.length c0_1, .slice A0_2 l0_2.length c0_2, .slice A0_3 l0_3.length c0_3, .slice A0_4 l0_4.length c0_4] 28 ?_; intro gb163 hg w13 hbox hb; have BK163 := aM (hbox); have GW163 := szG hg (uL HB); have GE163 := szG hg (uL HB); replace HB := aM (below_step (uL HB) hb); clear hb hbox hg) | ((with_reducible refine gate_dst (N := 3) rfl ?_); refine bxE 3 #[.slice A1_0 l1_0.length c1_0, .slice A1_1 l1_1.length c1_1, .slice A1_2 l1_2.length c1_2, .slice A1_3 l1_3.length c1_3, .slice A1_4 l1_4.length c1_4] 28 ?_; intro gb164 hg w14 hbox hb; have BK164 := aM (hbox); have GW164 := szG hg (uL HB); have GE164 := szG hg (uL HB); have NB163_164 := neL hg BK163; have NB164_163 := neG hg BK163; replace BK163 := blkB BK163 hb; replace HB := aM (below_step (uL HB) hb); clear hb hbox hg; have hnb15 := NB163_164.out; have hnc15 := NB164_163.out; have hcz16_0 := czA BK163.out 0 (.slice A0_0 l0_0.length c0_0); have hcz16_1 := czA BK163.out 1 (.slice A0_1 l0_1.length c0_1); have hcz16_2 := czA BK163.out 2 (.slice A0_2 l0_2.length c0_2); have hcz16_3 := czA BK163.out 3 (.slice A0_3 l0_3.length c0_3); have hcz16_4 := czA BK163.out 4 (.slice A0_4 l0_4.length c0_4); have hfz16_0 := blk_frozen BK163.out 0; have hfz16_1 := blk_frozen BK163.out 1; have hfz16_2 := blk_frozen BK163.out 2; have hfz16_3 := blk_frozen BK163.out 3; have hfz16_4 := blk_frozen BK163.out 4; have hcz17_0 := czA BK164.out 0 (.slice A1_0 l1_0.length c1_0); have hcz17_1 := czA BK164.out 1 (.slice A1_1 l1_1.length c1_1); have hcz17_2 := czA BK164.out 2 (.slice A1_2 l1_2.length c1_2); have hcz17_3 := czA BK164.out 3 (.slice A1_3 l1_3.length c1_3); have hcz17_4 := czA BK164.out 4 (.slice A1_4 l1_4.length c1_4); have hfz17_0 := blk_frozen BK164.out 0; have hfz17_1 := blk_frozen BK164.out 1; have hfz17_2 := blk_frozen BK164.out 2; have hfz17_3 := blk_frozen BK164.out 3; have hfz17_4 := blk_frozen BK164.out 4) | ((with_reducible refine gate_callee (f := 18) rfl ?_); refine gL (some 9) Tryd.func18 #[.slice A0_0 l0_0.length c0_0, .slice A1_0 l1_0.length c1_0] ?_; (with_reducible refine (laws_eqIntS.calls k _ _ l0_0 _ _ l1_0 true _ ?side1 ?side2 ?side3 ?side4 A3.out).mono ?_); (case side1 => exact uC HR0_0 HB); (case side2 => exact HC0_0.out); (case side3 => exact uC HR1_0 HB); (case side4 => exact HC1_0.out); rintro e w' ⟨rfl, ⟨nd, rfl⟩⟩; refine ⟨_, rfl, ?_⟩) | ((with_reducible refine gate_callee (f := 18) rfl ?_); refine gL (some 15) Tryd.func18 #[.slice A0_1 l0_1.length c0_1, .slice A1_1 l1_1.length c1_1] ?_; (with_reducible refine (laws_eqIntS.calls k _ _ l0_1 _ _ l1_1 true _ ?side1 ?side2 ?side3 ?side4 A5.out).mono ?_); (case side1 => repeat (first | exact (Kd.C_below HR0_1.out (uL HB)) | (with_reducible refine cA ?_ _) | (with_reducible refine cN ?_ _) | (with_reducible refine cD ?_))); (case side2 => exact HC0_1.out); (case side3 => repeat (first | exact (Kd.C_below HR1_1.out (uL HB)) | (with_reducible refine cA ?_ _) | (with_reducible refine cN ?_ _) | (with_reducible refine cD ?_))); (case side4 => exact HC1_1.out); rintro e w' ⟨rfl, ⟨nd, rfl⟩⟩; refine ⟨_, rfl, ?_⟩) | ((with_reducible refine gate_callee (f := 18) rfl ?_); refine gL (some 21) Tryd.func18 #[.slice A0_2 l0_2.length c0_2, .slice A1_2 l1_2.length c1_2] ?_; (with_reducible refine (laws_eqIntS.calls k _ _ l0_2 _ _ l1_2 true _ ?side1 ?side2 ?side3 ?side4 A7.out).mono ?_); (case side1 => repeat (first | exact (Kd.C_below HR0_2.out (uL HB)) | (with_reducible refine cA ?_ _) | (with_reducible refine cN ?_ _) | (with_reducible refine cD ?_))); (case side2 => exact HC0_2.out); (case side3 => repeat (first | exact (Kd.C_below HR1_2.out (uL HB)) | (with_reducible refine cA ?_ _) | (with_reducible refine cN ?_ _) | (with_reducible refine cD ?_))); (case side4 => exact HC1_2.out); rintro e w' ⟨rfl, ⟨nd, rfl⟩⟩; refine ⟨_, rfl, ?_⟩) | ((with_reducible refine gate_callee (f := 18) rfl ?_); refine gL (some 27) Tryd.func18 #[.slice A0_3 l0_3.length c0_3, .slice A1_3 l1_3.length c1_3] ?_; (with_reducible refine (laws_eqIntS.calls k _ _ l0_3 _ _ l1_3 true _ ?side1 ?side2 ?side3 ?side4 A9.out).mono ?_); (case side1 => repeat (first | exact (Kd.C_below HR0_3.out (uL HB)) | (with_reducible refine cA ?_ _) | (with_reducible refine cN ?_ _) | (with_reducible refine cD ?_))); (case side2 => exact HC0_3.out); (case side3 => repeat (first | exact (Kd.C_below HR1_3.out (uL HB)) | (with_reducible refine cA ?_ _) | (with_reducible refine cN ?_ _) | (with_reducible refine cD ?_))); (case side4 => exact HC1_3.out); rintro e w' ⟨rfl, ⟨nd, rfl⟩⟩; refine ⟨_, rfl, ?_⟩) | ((with_reducible refine gate_callee (f := 18) rfl ?_); refine gL (some 33) Tryd.func18 #[.slice A0_4 l0_4.length c0_4, .slice A1_4 l1_4.length c1_4] ?_; (with_reducible refine (laws_eqIntS.calls k _ _ l0_4 _ _ l1_4 _ _ ?side1 ?side2 ?side3 ?side4 A11.out).mono ?_); (case side1 => repeat (first | exact (Kd.C_below HR0_4.out (uL HB)) | (with_reducible refine cA ?_ _) | (with_reducible refine cN ?_ _) | (with_reducible refine cD ?_))); (case side2 => exact HC0_4.out); (case side3 => repeat (first | exact (Kd.C_below HR1_4.out (uL HB)) | (with_reducible refine cA ?_ _) | (with_reducible refine cN ?_ _) | (with_reducible refine cD ?_))); (case side4 => exact HC1_4.out); rintro e w' ⟨rfl, ⟨nd, rfl⟩⟩; refine ⟨_, rfl, ?_⟩))
  go_ret
  exact rX HB

end Go.Proofs.YtlglildjehcogaaDoor.QFnExactCronText
