-- Own work (wip/turnprint.py over the kit's print).
import Derived.Test.YthomiofokkkhgaaQFnCountsx0
namespace Go.Proofs.Ythomiofokkkhgaa.QFnCounts
open Go.RowKit Go.Proofs.YthomiofokkkhgaaW.PrintWords Go.Proofs.YthomiofokkkhgaaW.PrintLast Go.Proofs.YthomiofokkkhgaaW.PrintMore
attribute [local go_sem] max2_int min2_int max_two min_two max_three min_three max_four min_four   -- for this text's walks alone
set_option linter.unusedVariables false
set_option linter.unusedSimpArgs false

/-! ### impl_CronOk: function 18 (given by the session) -/
/-- ascending numbers of a .. b behind what p tells of -/
def impl_CronOk.rise (a b : Int) : Option Int → List Int → Bool
 | _, [] => true
 | p, x :: xs => decide (a ≤ x ∧ x ≤ b) && ((match p with | none => true | some y => decide (y < x)) && impl_CronOk.rise a b (some x) xs)
def impl_CronOk.prev (l : List Int) (i : Nat) : Option Int := if i = 0 then none else some (l.getD (i - 1) 0)
theorem impl_CronOk.rise_at (a b : Int) (l : List Int) (i : Nat) (h : i < l.length) :
 impl_CronOk.rise a b (impl_CronOk.prev l i) (l.drop i) = (decide (a ≤ l.getD i 0 ∧ l.getD i 0 ≤ b) && ((if i = 0 then true else decide (l.getD (i - 1) 0 < l.getD i 0)) && impl_CronOk.rise a b (impl_CronOk.prev l (i + 1)) (l.drop (i + 1)))) := by
 have e : impl_CronOk.prev l (i + 1) = some (l.getD i 0) := by simp [impl_CronOk.prev]
 have e2 : l.drop i = l.getD i 0 :: l.drop (i + 1) := by
  rw [List.drop_eq_getElem_cons h, List.getD_eq_getElem?_getD, List.getElem?_eq_getElem h]
  rfl
 rw [e, e2]
 simp only [impl_CronOk.rise, impl_CronOk.prev]
 by_cases h0 : i = 0
 ·simp [h0]
 ·simp [h0]
def impl_CronOk.fld (a b : Int) (l : List Int) : Bool := decide (1 ≤ l.length) && impl_CronOk.rise a b none l
def impl_CronOk.f (l0 l1 l2 l3 l4 : List Int) : Option Bool := some (impl_CronOk.fld 0 59 l0 && (impl_CronOk.fld 0 23 l1 && (impl_CronOk.fld 1 31 l2 && (impl_CronOk.fld 1 12 l3 && impl_CronOk.fld 0 6 l4))))
/-- the fields' addresses -/
theorem impl_CronOk.fields (g : Nat) (w : World) :
 Calls Try.prog 30 #[.pointer (some ⟨g, 0, none⟩)] w fun e w' => e = .returned (.agg #[.pointer (some ⟨g, 0, none⟩), .pointer (some ⟨g, 1, none⟩), .pointer (some ⟨g, 2, none⟩), .pointer (some ⟨g, 3, none⟩), .pointer (some ⟨g, 4, none⟩)]) ∧ Below w.heap.size w w' := by
 have HB := Aside0.mk (Below.refl w.heap.size w)
 go_enter Try.func30, Try.ntmps30
 go_wp2_with ((with_reducible refine gate_dst (N := 2) rfl ?_); refine bxE 2 #[.pointer none, .pointer none, .pointer none, .pointer none, .pointer none] 64 ?_; intro gb hg w2 hbox hb; have HB2 := Aside0.mk hb; have BK := Aside0.mk hbox; have GE := Aside0.mk (show w.heap.size ≤ gb by rw [hg]; exact Nat.le_refl _); clear hb hbox hg)
 go_still_tail 16, (by kernel_rfl)
 have HB3 := Aside0.mk (below_drew1 HB2.out)
 have BK3 := Aside0.mk (blk_drew BK.out)
 clear HB2 BK
 refine store_blk rfl rfl 64 (.tmp 2) (.tmp 18) rfl (.agg #[.pointer (some ⟨g, 0, none⟩), .pointer (some ⟨g, 1, none⟩), .pointer (some ⟨g, 2, none⟩), .pointer (some ⟨g, 3, none⟩), .pointer (some ⟨g, 4, none⟩)]) [.pointer (some ⟨g, 0, none⟩), .pointer (some ⟨g, 1, none⟩), .pointer (some ⟨g, 2, none⟩), .pointer (some ⟨g, 3, none⟩), .pointer (some ⟨g, 4, none⟩)] rfl rfl rfl (by kernel_rfl) BK3.out (by simp) (by intro q hq; simp at hq; rcases hq with rfl | rfl | rfl | rfl | rfl <;> rfl) ?_
 intro w4 cur hc hcl hg
 have HG := Aside0.mk hg
 obtain rfl : cur = #[.pointer (some ⟨g, 0, none⟩), .pointer (some ⟨g, 1, none⟩), .pointer (some ⟨g, 2, none⟩), .pointer (some ⟨g, 3, none⟩), .pointer (some ⟨g, 4, none⟩)] := Array.toList_inj.mp (hcl.trans rfl)
 have BK4 := Aside0.mk hc
 clear hcl hc hg BK3
 go_wp2
 refine bodyPost_ret (results_cell_row rfl _ _ gb 64 _ (0, 0) _ rfl BK4.out Try.underlying64 rfl (by kernel_rfl)) rfl ⟨rfl, ?_⟩
 exact (HB3.out).grown HG.out (below_size HB3.out) (fun k hk => by injection hk with hk; subst hk; exact GE.out)
/-- the bounds of a field -/
def impl_CronOk.lo (i : Nat) : Int := if i = 2 ∨ i = 3 then 1 else 0
def impl_CronOk.hi (i : Nat) : Int := if i = 0 then 59 else if i = 1 then 23 else if i = 2 then 31 else if i = 3 then 12 else 6
set_option maxHeartbeats 2000000 in
theorem impl_CronOk.bnd (i : Nat) (w : World) (hi : i < 5) :
 Calls Try.prog 31 #[.int .i64 (i : Int)] w fun e w' => e = .returned (.tuple #[.int .i64 (impl_CronOk.lo i), .int .i64 (impl_CronOk.hi i)]) ∧ w = w' := by
 obtain rfl | rfl | rfl | rfl | rfl : i = 0 ∨ i = 1 ∨ i = 2 ∨ i = 3 ∨ i = 4 := by omega
 all_goals
  go_enter Try.func31, Try.ntmps31
  go_wp2
  go_ret2
  exact ⟨rfl, rfl⟩
theorem impl_CronOk.inr (x a b : Int) (z : Bool) (w : World) (hz : decide (a ≤ x ∧ x ≤ b) = z) :
 Calls Try.prog 29 #[.int .i64 x, .int .i64 a, .int .i64 b] w fun e w' => e = .returned (.bool z) ∧ w = w' := by
 by_cases h1 : a ≤ x
 ·by_cases h2 : x ≤ b
  ·rw [decide_eq_true (show a ≤ x ∧ x ≤ b from ⟨h1, h2⟩)] at hz
   subst hz
   go_enter Try.func29, Try.ntmps29
   go_wp2
   go_ret
   exact ⟨rfl, rfl⟩
  ·rw [decide_eq_false (show ¬ (a ≤ x ∧ x ≤ b) from fun h => h2 h.2)] at hz
   subst hz
   go_enter Try.func29, Try.ntmps29
   go_wp2
   go_ret
   exact ⟨rfl, rfl⟩
 ·rw [decide_eq_false (show ¬ (a ≤ x ∧ x ≤ b) from fun h => h1 h.1)] at hz
  subst hz
  go_enter Try.func29, Try.ntmps29
  go_wp2
  go_ret
  exact ⟨rfl, rfl⟩
/-- the field's list -/
def impl_CronOk.nth (l0 l1 l2 l3 l4 : List Int) (i : Nat) : List Int := if i = 0 then l0 else if i = 1 then l1 else if i = 2 then l2 else if i = 3 then l3 else l4
/-- the fields of the last d places are as they are wanted -/
def impl_CronOk.rest (L : Nat → List Int) : Nat → Bool
 | 0 => true
 | d + 1 => impl_CronOk.fld (impl_CronOk.lo (4 - d)) (impl_CronOk.hi (4 - d)) (L (4 - d)) && impl_CronOk.rest L d
theorem impl_CronOk.rest_at (L : Nat → List Int) (i : Nat) (h : i < 5) : impl_CronOk.rest L (5 - i) = (impl_CronOk.fld (impl_CronOk.lo i) (impl_CronOk.hi i) (L i) && impl_CronOk.rest L (5 - (i + 1))) := by
 have e : 5 - i = (5 - (i + 1)) + 1 := by omega
 rw [e]
 show (impl_CronOk.fld (impl_CronOk.lo (4 - (5 - (i + 1)))) (impl_CronOk.hi (4 - (5 - (i + 1)))) (L (4 - (5 - (i + 1)))) && _) = _
 rw [show 4 - (5 - (i + 1)) = i by omega]
theorem impl_CronOk.index5 (g i : Nat) (h : i < 5) (W : World) : (Instr.index 64 (.agg #[.pointer (some ⟨g, 0, none⟩), .pointer (some ⟨g, 1, none⟩), .pointer (some ⟨g, 2, none⟩), .pointer (some ⟨g, 3, none⟩), .pointer (some ⟨g, 4, none⟩)]) (.int .i64 (i : Int))).run Try.prog W = .ok (.pointer (some ⟨g, i, none⟩)) W := by
 obtain rfl | rfl | rfl | rfl | rfl : i = 0 ∨ i = 1 ∨ i = 2 ∨ i = 3 ∨ i = 4 := by omega
 all_goals kernel_rfl
/-- what lies behind a field -/
def impl_CronOk.Row (W : World) (g : Nat) (l : List Int) (i : Nat) : Prop := ∃ A c, W.cell? ⟨g, i, none⟩ = some (.slice A l.length c) ∧ l.length ≤ c ∧ Kd.C (Kd.int .i64) W A l.length l
theorem impl_CronOk.fld_nil (a b : Int) (l : List Int) (h : l.length = 0) : impl_CronOk.fld a b l = false := by
 unfold impl_CronOk.fld
 rw [decide_eq_false (by omega), Bool.false_and]
theorem impl_CronOk.fld_rise (a b : Int) (l : List Int) (h : ¬ l.length = 0) : impl_CronOk.fld a b l = impl_CronOk.rise a b none l := by
 unfold impl_CronOk.fld
 rw [decide_eq_true (by omega), Bool.true_and]
set_option maxHeartbeats 8000000 in
set_option maxRecDepth 100000 in
theorem impl_CronOk.calls (A0 : Option Addr) (c0 : Nat) (l0 : List Int) (A1 : Option Addr) (c1 : Nat) (l1 : List Int) (A2 : Option Addr) (c2 : Nat) (l2 : List Int) (A3 : Option Addr) (c3 : Nat) (l3 : List Int) (A4 : Option Addr) (c4 : Nat) (l4 : List Int) (r : Bool) (w : World)
 (hr0 : Kd.C (Kd.int .i64) w A0 l0.length l0) (hc0 : l0.length ≤ c0) (hr1 : Kd.C (Kd.int .i64) w A1 l1.length l1) (hc1 : l1.length ≤ c1) (hr2 : Kd.C (Kd.int .i64) w A2 l2.length l2) (hc2 : l2.length ≤ c2) (hr3 : Kd.C (Kd.int .i64) w A3 l3.length l3) (hc3 : l3.length ≤ c3) (hr4 : Kd.C (Kd.int .i64) w A4 l4.length l4) (hc4 : l4.length ≤ c4)
 (h : impl_CronOk.f l0 l1 l2 l3 l4 = some r) :
 Calls Try.prog 18 #[.agg #[.slice A0 l0.length c0, .slice A1 l1.length c1, .slice A2 l2.length c2, .slice A3 l3.length c3, .slice A4 l4.length c4]] w fun e w' => e = .returned (.bool r) ∧ Below w.heap.size w w' := by
 have hL : impl_CronOk.rest (impl_CronOk.nth l0 l1 l2 l3 l4) (5 - 0) = r := Option.some.inj ((show some (impl_CronOk.rest (impl_CronOk.nth l0 l1 l2 l3 l4) (5 - 0)) = impl_CronOk.f l0 l1 l2 l3 l4 by simp [impl_CronOk.rest, impl_CronOk.f, impl_CronOk.nth, impl_CronOk.lo, impl_CronOk.hi]).trans h)
 clear h
 have HL := Aside0.mk hL
 clear hL
 have HR0 := Aside0.mk hr0
 have HR1 := Aside0.mk hr1
 have HR2 := Aside0.mk hr2
 have HR3 := Aside0.mk hr3
 have HR4 := Aside0.mk hr4
 clear hr0 hr1 hr2 hr3 hr4
 have HC := Aside0.mk (⟨hc0, hc1, hc2, hc3, hc4⟩ : l0.length ≤ c0 ∧ l1.length ≤ c1 ∧ l2.length ≤ c2 ∧ l3.length ≤ c3 ∧ l4.length ≤ c4)
 clear hc0 hc1 hc2 hc3 hc4
 go_enter Try.func18, Try.ntmps18
 go_wp2_with (first | ((with_reducible refine gate_dst (N := 1) rfl ?_); refine bxE 1 #[.slice A0 l0.length c0, .slice A1 l1.length c1, .slice A2 l2.length c2, .slice A3 l3.length c3, .slice A4 l4.length c4] 26 ?_; intro gb hg w2 hbox hb; have HB2 := Aside0.mk hb; have BK := Aside0.mk hbox; clear hb hbox hg) | (go_at_call 30; refine (impl_CronOk.fields _ _).mono ?_; rintro e w4 ⟨rfl, hb4⟩; have HB4 := Aside0.mk hb4; clear hb4))
 have HB := Aside0.mk (below_step HB2.out HB4.out)
 have BK4 := Aside0.mk (blk_below BK.out HB4.out)
 have HRow : Aside0 (∀ i, i < 5 → impl_CronOk.Row w4 gb (impl_CronOk.nth l0 l1 l2 l3 l4 i) i) := ⟨by
  have b : ∀ {A n l}, Kd.C (Kd.int .i64) w A n l → Kd.C (Kd.int .i64) w4 A n l := fun h => Kd.C_below h HB.out
  intro i hi
  obtain rfl | rfl | rfl | rfl | rfl : i = 0 ∨ i = 1 ∨ i = 2 ∨ i = 3 ∨ i = 4 := by omega
  ·exact ⟨_, _, (blk_cell BK4.out 0).trans rfl, HC.out.1, b HR0.out⟩
  ·exact ⟨_, _, (blk_cell BK4.out 1).trans rfl, HC.out.2.1, b HR1.out⟩
  ·exact ⟨_, _, (blk_cell BK4.out 2).trans rfl, HC.out.2.2.1, b HR2.out⟩
  ·exact ⟨_, _, (blk_cell BK4.out 3).trans rfl, HC.out.2.2.2.1, b HR3.out⟩
  ·exact ⟨_, _, (blk_cell BK4.out 4).trans rfl, HC.out.2.2.2.2, b HR4.out⟩⟩
 clear HR0 HR1 HR2 HR3 HR4 HC BK BK4 HB2 HB4
 generalize impl_CronOk.nth l0 l1 l2 l3 l4 = L at HRow HL
 go_loop [11] (fun v11 => ∃ i : Nat, i ≤ 5 ∧ v11 = .int .i64 (i : Int) ∧ Aside0 (impl_CronOk.rest L (5 - i) = r)) (fun v11 => 5 - (intOf v11).toNat)
 case atStart => exact ⟨0, by omega, rfl, HL⟩
 case round =>
  clear HL
  obtain ⟨i, hi, rfl, HI⟩ := hrel
  by_cases hlt : i < 5
  ·have hix := impl_CronOk.index5 gb i hlt
   have HI2 := Aside0.mk ((impl_CronOk.rest_at L i hlt).symm.trans HI.out)
   obtain ⟨A, c, hcell, hc, hC⟩ := HRow.out i hlt
   have HC := Aside0.mk hC
   clear hC
   by_cases h0 : (L i).length = 0
   ·have HF := Aside0.mk (show false = r by rw [← HI2.out, impl_CronOk.fld_nil _ _ _ h0, Bool.false_and])
    have hq0 : decide ((0 : Int) < ((L i).length : Int)) = false := decide_eq_false (by omega)
    rw [h0] at hcell
    clear hc HI HI2
    go_wp2_with (first | (go_at_call 31; refine (impl_CronOk.bnd i _ hlt).mono ?_; rintro e w' ⟨rfl, rfl⟩))
    go_loop [25] (fun v25 => v25 = .int .i64 0) (fun _ => 0)
    case atStart => rfl
    case round =>
     obtain rfl := hrel
     go_wp2
     go_ret
     exact ⟨congrArg (fun b_ => Ending.returned (Value.bool b_)) HF.out, HB.out⟩
   ·obtain ⟨ad, hA, _⟩ := HC.out.2.2 (by omega)
    subst hA
    have HI3 := Aside0.mk (show (impl_CronOk.rise (impl_CronOk.lo i) (impl_CronOk.hi i) none (L i) && impl_CronOk.rest L (5 - (i + 1))) = r by rw [← HI2.out, impl_CronOk.fld_rise _ _ _ h0])
    clear HI HI2
    have hlen : ((L i).length : Int) ≤ 9223372036854775807 := by have := HC.out.2.1; omega
    go_wp2_with (first | (go_at_call 31; refine (impl_CronOk.bnd i _ hlt).mono ?_; rintro e w' ⟨rfl, rfl⟩))
    go_loop [25] (fun v25 => ∃ k : Nat, k ≤ (L i).length ∧ v25 = .int .i64 (k : Int) ∧ Aside0 (impl_CronOk.rise (impl_CronOk.lo i) (impl_CronOk.hi i) (impl_CronOk.prev (L i) k) ((L i).drop k) = impl_CronOk.rise (impl_CronOk.lo i) (impl_CronOk.hi i) none (L i))) (fun v25 => (L i).length - (intOf v25).toNat)
    case atStart => exact ⟨0, Nat.zero_le _, rfl, ⟨rfl⟩⟩
    case round =>
     obtain ⟨k, hk, rfl, HK⟩ := hrel
     by_cases hkl : k < (L i).length
     ·have HK2 := Aside0.mk ((impl_CronOk.rise_at (impl_CronOk.lo i) (impl_CronOk.hi i) (L i) k hkl).symm.trans HK.out)
      have hx : w4.cell? (ad.add k) = some (.int .i64 ((L i).getD k 0)) := by
       obtain ⟨ad2, he, h1⟩ := Kd.at_int HC.out (k : Int) (by omega) (by omega)
       injection he with he
       subst he
       exact h1
      obtain ⟨x, hxv⟩ : ∃ x, x = (L i).getD k 0 := ⟨_, rfl⟩
      rw [← hxv] at hx HK2
      clear hxv HK
      by_cases hr : impl_CronOk.lo i ≤ x ∧ x ≤ impl_CronOk.hi i
      ·by_cases hz : k = 0
       ·subst hz
        have hx : w4.cell? ad = some (.int .i64 x) := by simpa [Addr.add] using hx
        have HK3 := Aside0.mk (show impl_CronOk.rise (impl_CronOk.lo i) (impl_CronOk.hi i) (impl_CronOk.prev (L i) (0 + 1)) ((L i).drop (0 + 1)) = impl_CronOk.rise (impl_CronOk.lo i) (impl_CronOk.hi i) none (L i) by rw [← HK2.out, decide_eq_true hr, if_pos rfl, Bool.true_and, Bool.true_and])
        clear HK2
        have HD := Aside0.mk (decide_eq_true hr)
        clear hr
        go_wp2_with (first | (go_at_call 29; refine (impl_CronOk.inr _ _ _ _ _ HD.out).mono ?_; rintro e w' ⟨rfl, rfl⟩))
        go_round
        case rel => exact ⟨0 + 1, by omega, by go_num, HK3⟩
        case measure => simp [intOf]; omega
       ·have hy : w4.cell? (ad.add (k - 1)) = some (.int .i64 ((L i).getD (k - 1) 0)) := by
         obtain ⟨ad2, he, h1⟩ := Kd.at_int HC.out ((k - 1 : Nat) : Int) (by omega) (by omega)
         injection he with he
         subst he
         exact h1
        obtain ⟨y, hyv⟩ : ∃ y, y = (L i).getD (k - 1) 0 := ⟨_, rfl⟩
        rw [← hyv] at hy HK2
        clear hyv
        have HD := Aside0.mk (decide_eq_true hr)
        by_cases hp : y < x
        ·have HK3 := Aside0.mk (show impl_CronOk.rise (impl_CronOk.lo i) (impl_CronOk.hi i) (impl_CronOk.prev (L i) (k + 1)) ((L i).drop (k + 1)) = impl_CronOk.rise (impl_CronOk.lo i) (impl_CronOk.hi i) none (L i) by rw [← HK2.out, decide_eq_true hr, if_neg hz, decide_eq_true hp, Bool.true_and, Bool.true_and])
         clear HK2 hr
         go_wp2_with (first | (go_at_call 29; refine (impl_CronOk.inr _ _ _ _ _ HD.out).mono ?_; rintro e w' ⟨rfl, rfl⟩))
         go_round
         case rel => exact ⟨k + 1, by omega, by go_num, HK3⟩
         case measure => simp [intOf]; omega
        ·have HF := Aside0.mk (show false = r by rw [← HI3.out, ← HK2.out, decide_eq_true hr, if_neg hz, decide_eq_false hp]; simp)
         clear HK2 hr HI3
         go_wp2_with (first | (go_at_call 29; refine (impl_CronOk.inr _ _ _ _ _ HD.out).mono ?_; rintro e w' ⟨rfl, rfl⟩))
         go_ret
         exact ⟨congrArg (fun b_ => Ending.returned (Value.bool b_)) HF.out, HB.out⟩
      ·have HD := Aside0.mk (decide_eq_false hr)
       have HF := Aside0.mk (show false = r by rw [← HI3.out, ← HK2.out, decide_eq_false hr]; simp)
       clear HK2 hr HI3
       go_wp2_with (first | (go_at_call 29; refine (impl_CronOk.inr _ _ _ _ _ HD.out).mono ?_; rintro e w' ⟨rfl, rfl⟩))
       go_ret
       exact ⟨congrArg (fun b_ => Ending.returned (Value.bool b_)) HF.out, HB.out⟩
     ·obtain rfl : k = (L i).length := by omega
      have HN := Aside0.mk (show impl_CronOk.rest L (5 - (i + 1)) = r by
       rw [← HI3.out, ← HK.out, List.drop_eq_nil_of_le (Nat.le_refl _)]
       cases impl_CronOk.prev (L i) (L i).length <;> simp [impl_CronOk.rise])
      clear HK HI3
      go_wp2
      go_round
      case rel => exact ⟨i + 1, by omega, by go_num, HN⟩
      case measure => simp [intOf]; omega
  ·obtain rfl : i = 5 := by omega
   have HF := Aside0.mk (show true = r from HI.out)
   clear HI
   go_wp2
   go_ret
   exact ⟨congrArg (fun b_ => Ending.returned (Value.bool b_)) HF.out, HB.out⟩

/-! ### impl_LeapYear: function 45 -/
def impl_LeapYear.f (a0 : Int) : Option (Bool) := if (Int.tmod a0 4) = 0 then (if (Int.tmod a0 100) = 0 then (some ((Int.tmod a0 400) == 0)) else (some true)) else (some ((Int.tmod a0 400) == 0))
set_option maxHeartbeats 8000000 in
set_option maxRecDepth 100000 in
theorem impl_LeapYear.calls (a0 : Int) (r : Bool) (w : World) (h : impl_LeapYear.f a0 = some r) :
 Calls Try.prog 45 #[.int .i64 a0] w fun e w' => e = .returned (.bool r) ∧ Drawn0 w w' := by
 have H : (if (Int.tmod a0 4) = 0 then (if (Int.tmod a0 100) = 0 then (some ((Int.tmod a0 400) == 0)) else (some true)) else (some ((Int.tmod a0 400) == 0))) = some r := h
 clear h
 by_cases c2 : (Int.tmod a0 4) = 0
 ·rw [if_pos c2] at H
  have c2b0 : ((Int.tmod a0 4) == 0) = true := beq_iff_eq.mpr c2
  have c2b1 : ((Int.tmod a0 4) != 0) = false := bne_eq_false_iff_eq.mpr c2
  clear c2
  by_cases c3 : (Int.tmod a0 100) = 0
  ·rw [if_pos c3] at H
   have c3b0 : ((Int.tmod a0 100) == 0) = true := beq_iff_eq.mpr c3
   have c3b1 : ((Int.tmod a0 100) != 0) = false := bne_eq_false_iff_eq.mpr c3
   clear c3
   obtain rfl := Option.some.inj H
   go_enter Try.func45, Try.ntmps45
   go_wp2
   go_ret
   exact ⟨by first | rfl | (simp; done) | (simp [*]; done), by repeat (first | exact Drawn0.refl _ | apply Drawn0.step)⟩
  ·rw [if_neg c3] at H
   have c3b0 : ((Int.tmod a0 100) == 0) = false := beq_eq_false_iff_ne.mpr c3
   have c3b1 : ((Int.tmod a0 100) != 0) = true := bne_iff_ne.mpr c3
   obtain rfl := Option.some.inj H
   go_enter Try.func45, Try.ntmps45
   go_wp2
   go_ret
   exact ⟨by first | rfl | (simp; done) | (simp [*]; done), by repeat (first | exact Drawn0.refl _ | apply Drawn0.step)⟩
 ·rw [if_neg c2] at H
  have c2b0 : ((Int.tmod a0 4) == 0) = false := beq_eq_false_iff_ne.mpr c2
  have c2b1 : ((Int.tmod a0 4) != 0) = true := bne_iff_ne.mpr c2
  obtain rfl := Option.some.inj H
  go_enter Try.func45, Try.ntmps45
  go_wp2
  go_ret
  exact ⟨by first | rfl | (simp; done) | (simp [*]; done), by repeat (first | exact Drawn0.refl _ | apply Drawn0.step)⟩

/-! ### impl_daysOf: function 35 -/
def impl_daysOf.f (a0 : Int) : Option (Int) := (impl_LeapYear.f a0).bind fun t318 => (if t318 = true then (some 366) else (some 365))
set_option maxHeartbeats 8000000 in
set_option maxRecDepth 100000 in
theorem impl_daysOf.calls (a0 : Int) (r : Int) (w : World) (h : impl_daysOf.f a0 = some r) :
 Calls Try.prog 35 #[.int .i64 a0] w fun e w' => e = .returned (.int .i64 r) ∧ Drawn0 w w' := by
 have H : ((impl_LeapYear.f a0).bind fun t318 => (if t318 = true then (some 366) else (some 365))) = some r := h
 clear h
 replace H := Option.bind_eq_some_iff.mp H
 obtain ⟨t318, A20, H⟩ := H
 replace H : (if t318 = true then (some 366) else (some 365)) = some r := H
 have A2 := aM A20
 clear A20
 refine Classical.byCases (p := t318 = true) (fun c3 => ?L1p) (fun c3 => ?L1n)
 case' L1p =>
  subst c3
  have H1 : (some 366) = some r := by rw [if_pos rfl] at H; exact H
  clear H; have H := H1; clear H1
  obtain rfl := Option.some.inj H
 case' L1n =>
  replace c3 := Bool.eq_false_iff.mpr c3
  subst c3
  have H1 : (some 365) = some r := by rw [if_neg (show ¬ (false = true) by decide)] at H; exact H
  clear H; have H := H1; clear H1
  obtain rfl := Option.some.inj H
 case L1p | L1n =>
  go_enter Try.func35, Try.ntmps35
  go_wp2_with (first | ((with_reducible refine gate_callee (f := 45) rfl ?_); refine gL (some 4) Try.func45 #[.int .i64 a0] ?_; (with_reducible refine (impl_LeapYear.calls a0 _ _ A2.out).mono ?_); rintro e w' ⟨rfl, ⟨nd, rfl⟩⟩; refine ⟨_, rfl, ?_⟩))
  go_ret
  exact ⟨by first | rfl | (simp; done) | (simp [*]; done), by repeat (first | exact Drawn0.refl _ | apply Drawn0.step)⟩

/-! ### impl_DaysIn: function 36 -/
mutual
def impl_DaysIn.j0 : Nat → Int → Int → Bool → Option (Int)
 | 0, _, _, _ => none
 | k + 1, x0, x5, x6 => if x6 = true then (some 31) else (if x5 = 4 then (impl_DaysIn.j1 k x0 x5 (x5 == 4)) else (if x5 = 6 then (impl_DaysIn.j1 k x0 x5 (x5 == 6)) else (if x5 = 9 then (impl_DaysIn.j1 k x0 x5 (x5 == 9)) else (impl_DaysIn.j1 k x0 x5 (x5 == 11)))))
def impl_DaysIn.j1 : Nat → Int → Int → Bool → Option (Int)
 | 0, _, _, _ => none
 | k + 1, x0, x5, x14 => if x14 = true then (some 30) else (if x5 = 2 then ((impl_LeapYear.f x0).bind fun t319 => (if t319 = true then (some 29) else (some 28))) else (some 0))
end
def impl_DaysIn.f (k : Nat) (a0 : Int) (a1 : Int) : Option (Int) := if a1 = 1 then (impl_DaysIn.j0 k a0 a1 (a1 == 1)) else (if a1 = 3 then (impl_DaysIn.j0 k a0 a1 (a1 == 3)) else (if a1 = 5 then (impl_DaysIn.j0 k a0 a1 (a1 == 5)) else (if a1 = 7 then (impl_DaysIn.j0 k a0 a1 (a1 == 7)) else (if a1 = 8 then (impl_DaysIn.j0 k a0 a1 (a1 == 8)) else (if a1 = 10 then (impl_DaysIn.j0 k a0 a1 (a1 == 10)) else (impl_DaysIn.j0 k a0 a1 (a1 == 12)))))))
theorem impl_DaysIn.mono_l : ∀ k, (∀ y0 y1 y2, LeO (impl_DaysIn.j0 k y0 y1 y2) (impl_DaysIn.j0 (k + 1) y0 y1 y2)) ∧ (∀ y0 y1 y2, LeO (impl_DaysIn.j1 k y0 y1 y2) (impl_DaysIn.j1 (k + 1) y0 y1 y2))
 | 0 => ⟨fun _ _ _ r h => by simp [impl_DaysIn.j0] at h, fun _ _ _ r h => by simp [impl_DaysIn.j1] at h⟩
 | k + 1 => by
  obtain ⟨ih0, ih1⟩ := impl_DaysIn.mono_l k
  refine ⟨?_, ?_⟩
  ·intro y0 y1 y2
   unfold impl_DaysIn.j0
   repeat' first
   | (with_reducible exact ih0 _ _ _)
   | (with_reducible exact ih1 _ _ _)
   | (with_reducible exact LeO.refl _)
   | (with_reducible exact LeO.none _)
   | (with_reducible refine LeO.ite ?_ ?_)
   | (with_reducible refine LeO.bind ?_ (fun _ => ?_))
   | exact ih0 _ _ _
   | exact ih1 _ _ _
   | exact LeO.none _
   | refine LeO.ite ?_ ?_
   | refine LeO.bind ?_ (fun _ => ?_)
  ·intro y0 y1 y2
   unfold impl_DaysIn.j1
   repeat' first
   | (with_reducible exact ih0 _ _ _)
   | (with_reducible exact ih1 _ _ _)
   | (with_reducible exact LeO.refl _)
   | (with_reducible exact LeO.none _)
   | (with_reducible refine LeO.ite ?_ ?_)
   | (with_reducible refine LeO.bind ?_ (fun _ => ?_))
   | exact ih0 _ _ _
   | exact ih1 _ _ _
   | exact LeO.none _
   | refine LeO.ite ?_ ?_
   | refine LeO.bind ?_ (fun _ => ?_)
theorem impl_DaysIn.mono : ∀ a0 a1 k, LeO (impl_DaysIn.f k a0 a1) (impl_DaysIn.f (k + 1) a0 a1) := by
 intro a0 a1 k
 obtain ⟨ih0, ih1⟩ := impl_DaysIn.mono_l k
 unfold impl_DaysIn.f
 repeat' first
  | (with_reducible exact ih0 _ _ _)
  | (with_reducible exact ih1 _ _ _)
  | (with_reducible exact LeO.refl _)
  | (with_reducible exact LeO.none _)
  | (with_reducible refine LeO.ite ?_ ?_)
  | (with_reducible refine LeO.bind ?_ (fun _ => ?_))
  | exact ih0 _ _ _
  | exact ih1 _ _ _
  | exact LeO.none _
  | refine LeO.ite ?_ ?_
  | refine LeO.bind ?_ (fun _ => ?_)
set_option maxHeartbeats 8000000 in
set_option maxRecDepth 100000 in
theorem impl_DaysIn.calls (k : Nat) (a0 : Int) (a1 : Int) (r : Int) (w : World) (h : impl_DaysIn.f k a0 a1 = some r) :
 Calls Try.prog 36 #[.int .i64 a0, .int .i64 a1] w fun e w' => e = .returned (.int .i64 r) ∧ Drawn0 w w' := by
 have H : (if a1 = 1 then (impl_DaysIn.j0 k a0 a1 (a1 == 1)) else (if a1 = 3 then (impl_DaysIn.j0 k a0 a1 (a1 == 3)) else (if a1 = 5 then (impl_DaysIn.j0 k a0 a1 (a1 == 5)) else (if a1 = 7 then (impl_DaysIn.j0 k a0 a1 (a1 == 7)) else (if a1 = 8 then (impl_DaysIn.j0 k a0 a1 (a1 == 8)) else (if a1 = 10 then (impl_DaysIn.j0 k a0 a1 (a1 == 10)) else (impl_DaysIn.j0 k a0 a1 (a1 == 12)))))))) = some r := h
 clear h
 have HC3 := aM H
 clear H
 go_enter Try.func36, Try.ntmps36
 go_upto_if 6 with (fail)
 go_cut [6] (fun v6 wc => ∃ (kq : Nat) (x6_2 : Bool), v6 = .bool x6_2 ∧ Aside0 (impl_DaysIn.j0 kq a0 a1 x6_2 = some r) ∧ Aside0 (kq ≤ k) ∧ Drawn0 w wc)
 case first =>
  have H := HC3.out
  clear HC3
  by_cases c4 : a1 = 1
  ·rw [if_pos c4] at H
   have c4b0 : (a1 == 1) = true := beq_iff_eq.mpr c4
   have c4b1 : (a1 != 1) = false := bne_eq_false_iff_eq.mpr c4
   clear c4
   (first | rw [c4b0] | (simp only [i64_w, i32_w]; rw [c4b0]) | skip)
   have H' := aM H
   clear H
   go_wp2
   go_meet
   case rel => exact ⟨_, ((a1 == 1)), (by first | rfl | (simp; done) | (simp [*]; done)), H', ⟨by first | omega | exact Nat.le_refl _⟩, by repeat (first | exact Drawn0.refl _ | apply Drawn0.step)⟩
  ·rw [if_neg c4] at H
   have c4b0 : (a1 == 1) = false := beq_eq_false_iff_ne.mpr c4
   have c4b1 : (a1 != 1) = true := bne_iff_ne.mpr c4
   (first | rw [c4b0] | (simp only [i64_w, i32_w]; rw [c4b0]) | skip)
   by_cases c5 : a1 = 3
   ·rw [if_pos c5] at H
    have c5b0 : (a1 == 3) = true := beq_iff_eq.mpr c5
    have c5b1 : (a1 != 3) = false := bne_eq_false_iff_eq.mpr c5
    clear c5
    have H' := aM H
    clear H
    go_wp2
    go_meet
    case rel => exact ⟨_, ((a1 == 3)), (by first | rfl | (simp; done) | (simp [*]; done)), H', ⟨by first | omega | exact Nat.le_refl _⟩, by repeat (first | exact Drawn0.refl _ | apply Drawn0.step)⟩
   ·rw [if_neg c5] at H
    have c5b0 : (a1 == 3) = false := beq_eq_false_iff_ne.mpr c5
    have c5b1 : (a1 != 3) = true := bne_iff_ne.mpr c5
    by_cases c6 : a1 = 5
    ·rw [if_pos c6] at H
     have c6b0 : (a1 == 5) = true := beq_iff_eq.mpr c6
     have c6b1 : (a1 != 5) = false := bne_eq_false_iff_eq.mpr c6
     clear c6
     have H' := aM H
     clear H
     go_wp2
     go_meet
     case rel => exact ⟨_, ((a1 == 5)), (by first | rfl | (simp; done) | (simp [*]; done)), H', ⟨by first | omega | exact Nat.le_refl _⟩, by repeat (first | exact Drawn0.refl _ | apply Drawn0.step)⟩
    ·rw [if_neg c6] at H
     have c6b0 : (a1 == 5) = false := beq_eq_false_iff_ne.mpr c6
     have c6b1 : (a1 != 5) = true := bne_iff_ne.mpr c6
     by_cases c7 : a1 = 7
     ·rw [if_pos c7] at H
      have c7b0 : (a1 == 7) = true := beq_iff_eq.mpr c7
      have c7b1 : (a1 != 7) = false := bne_eq_false_iff_eq.mpr c7
      clear c7
      have H' := aM H
      clear H
      go_wp2
      go_meet
      case rel => exact ⟨_, ((a1 == 7)), (by first | rfl | (simp; done) | (simp [*]; done)), H', ⟨by first | omega | exact Nat.le_refl _⟩, by repeat (first | exact Drawn0.refl _ | apply Drawn0.step)⟩
     ·rw [if_neg c7] at H
      have c7b0 : (a1 == 7) = false := beq_eq_false_iff_ne.mpr c7
      have c7b1 : (a1 != 7) = true := bne_iff_ne.mpr c7
      by_cases c8 : a1 = 8
      ·rw [if_pos c8] at H
       have c8b0 : (a1 == 8) = true := beq_iff_eq.mpr c8
       have c8b1 : (a1 != 8) = false := bne_eq_false_iff_eq.mpr c8
       clear c8
       have H' := aM H
       clear H
       go_wp2
       go_meet
       case rel => exact ⟨_, ((a1 == 8)), (by first | rfl | (simp; done) | (simp [*]; done)), H', ⟨by first | omega | exact Nat.le_refl _⟩, by repeat (first | exact Drawn0.refl _ | apply Drawn0.step)⟩
      ·rw [if_neg c8] at H
       have c8b0 : (a1 == 8) = false := beq_eq_false_iff_ne.mpr c8
       have c8b1 : (a1 != 8) = true := bne_iff_ne.mpr c8
       by_cases c9 : a1 = 10
       ·rw [if_pos c9] at H
        have c9b0 : (a1 == 10) = true := beq_iff_eq.mpr c9
        have c9b1 : (a1 != 10) = false := bne_eq_false_iff_eq.mpr c9
        clear c9
        have H' := aM H
        clear H
        go_wp2
        go_meet
        case rel => exact ⟨_, ((a1 == 10)), (by first | rfl | (simp; done) | (simp [*]; done)), H', ⟨by first | omega | exact Nat.le_refl _⟩, by repeat (first | exact Drawn0.refl _ | apply Drawn0.step)⟩
       ·rw [if_neg c9] at H
        have c9b0 : (a1 == 10) = false := beq_eq_false_iff_ne.mpr c9
        have c9b1 : (a1 != 10) = true := bne_iff_ne.mpr c9
        have H' := aM H
        clear H
        go_wp2
        go_meet
        case rel => exact ⟨_, ((a1 == 12)), (by first | rfl | (simp; done) | (simp [*]; done)), H', ⟨by first | omega | exact Nat.le_refl _⟩, by repeat (first | exact Drawn0.refl _ | apply Drawn0.step)⟩
 case rest =>
  clear HC3
  try clear p2; try clear c3; try clear c4; try clear c4b0; try clear c4b1; try clear c5; try clear c5b0; try clear c5b1; try clear c6; try clear c6b0; try clear c6b1; try clear c7; try clear c7b0; try clear c7b1; try clear c8; try clear c8b0; try clear c8b1; try clear c9; try clear c9b0; try clear c9b1
  obtain ⟨kq, x6_2, rfl, HA, HJ2, ⟨mc2, rfl⟩⟩ := hcut
  cases kq with
  | zero => exact absurd HA.out (by simp [impl_DaysIn.j0])
  | succ kj2 =>
   have H := HA.out
   clear HA
   simp only [impl_DaysIn.j0] at H
   by_cases c10 : x6_2 = true
   ·subst c10
    have H1 : (some 31) = some r := by rw [if_pos rfl] at H; exact H
    clear H; have H := H1; clear H1
    obtain rfl := Option.some.inj H
    go_wp2
    go_ret
    exact ⟨by first | rfl | (simp; done) | (simp [*]; done), by repeat (first | exact Drawn0.refl _ | apply Drawn0.step)⟩
   ·replace c10 := Bool.eq_false_iff.mpr c10
    subst c10
    rw [if_neg (show ¬ (false = true) by decide)] at H
    have HC11 := aM H
    clear H
    go_upto_if 14 with (fail)
    go_cut [14] (fun v14 wc => ∃ (kq : Nat) (x14_10 : Bool), v14 = .bool x14_10 ∧ Aside0 (impl_DaysIn.j1 kq a0 a1 x14_10 = some r) ∧ Aside0 (kq ≤ kj2) ∧ Drawn0 w wc)
    case first =>
     have H := HC11.out
     clear HC11
     by_cases c12 : a1 = 4
     ·rw [if_pos c12] at H
      have c12b0 : (a1 == 4) = true := beq_iff_eq.mpr c12
      have c12b1 : (a1 != 4) = false := bne_eq_false_iff_eq.mpr c12
      clear c12
      (first | rw [c12b0] | (simp only [i64_w, i32_w]; rw [c12b0]) | skip)
      have H' := aM H
      clear H
      go_wp2
      go_meet
      case rel => exact ⟨_, ((a1 == 4)), (by first | rfl | (simp; done) | (simp [*]; done)), H', ⟨by have := HJ2.out; first | omega | exact Nat.le_refl _⟩, by repeat (first | exact Drawn0.refl _ | apply Drawn0.step)⟩
     ·rw [if_neg c12] at H
      have c12b0 : (a1 == 4) = false := beq_eq_false_iff_ne.mpr c12
      have c12b1 : (a1 != 4) = true := bne_iff_ne.mpr c12
      (first | rw [c12b0] | (simp only [i64_w, i32_w]; rw [c12b0]) | skip)
      by_cases c13 : a1 = 6
      ·rw [if_pos c13] at H
       have c13b0 : (a1 == 6) = true := beq_iff_eq.mpr c13
       have c13b1 : (a1 != 6) = false := bne_eq_false_iff_eq.mpr c13
       clear c13
       have H' := aM H
       clear H
       go_wp2
       go_meet
       case rel => exact ⟨_, ((a1 == 6)), (by first | rfl | (simp; done) | (simp [*]; done)), H', ⟨by have := HJ2.out; first | omega | exact Nat.le_refl _⟩, by repeat (first | exact Drawn0.refl _ | apply Drawn0.step)⟩
      ·rw [if_neg c13] at H
       have c13b0 : (a1 == 6) = false := beq_eq_false_iff_ne.mpr c13
       have c13b1 : (a1 != 6) = true := bne_iff_ne.mpr c13
       by_cases c14 : a1 = 9
       ·rw [if_pos c14] at H
        have c14b0 : (a1 == 9) = true := beq_iff_eq.mpr c14
        have c14b1 : (a1 != 9) = false := bne_eq_false_iff_eq.mpr c14
        clear c14
        have H' := aM H
        clear H
        go_wp2
        go_meet
        case rel => exact ⟨_, ((a1 == 9)), (by first | rfl | (simp; done) | (simp [*]; done)), H', ⟨by have := HJ2.out; first | omega | exact Nat.le_refl _⟩, by repeat (first | exact Drawn0.refl _ | apply Drawn0.step)⟩
       ·rw [if_neg c14] at H
        have c14b0 : (a1 == 9) = false := beq_eq_false_iff_ne.mpr c14
        have c14b1 : (a1 != 9) = true := bne_iff_ne.mpr c14
        have H' := aM H
        clear H
        go_wp2
        go_meet
        case rel => exact ⟨_, ((a1 == 11)), (by first | rfl | (simp; done) | (simp [*]; done)), H', ⟨by have := HJ2.out; first | omega | exact Nat.le_refl _⟩, by repeat (first | exact Drawn0.refl _ | apply Drawn0.step)⟩
    case rest =>
     clear HC11
     try clear c1; try clear c2; try clear p2; try clear c3; try clear c4; try clear c4b0; try clear c4b1; try clear c5; try clear c5b0; try clear c5b1; try clear c6; try clear c6b0; try clear c6b1; try clear c7; try clear c7b0; try clear c7b1; try clear c8; try clear c8b0; try clear c8b1; try clear c9; try clear c9b0; try clear c9b1; try clear c10; try clear c12; try clear c12b0; try clear c12b1; try clear c13; try clear c13b0; try clear c13b1; try clear c14; try clear c14b0; try clear c14b1; try clear p2
     obtain ⟨kq, x14_10, rfl, HA, HJ10, ⟨mc10, rfl⟩⟩ := hcut
     cases kq with
     | zero => exact absurd HA.out (by simp [impl_DaysIn.j1])
     | succ kj10 =>
      have H := HA.out
      clear HA
      simp only [impl_DaysIn.j1] at H
      by_cases c15 : x14_10 = true
      ·subst c15
       have H1 : (some 30) = some r := by rw [if_pos rfl] at H; exact H
       clear H; have H := H1; clear H1
       obtain rfl := Option.some.inj H
       go_wp2
       go_ret
       exact ⟨by first | rfl | (simp; done) | (simp [*]; done), by repeat (first | exact Drawn0.refl _ | apply Drawn0.step)⟩
      ·replace c15 := Bool.eq_false_iff.mpr c15
       subst c15
       have H1 : (if a1 = 2 then ((impl_LeapYear.f a0).bind fun t319 => (if t319 = true then (some 29) else (some 28))) else (some 0)) = some r := by rw [if_neg (show ¬ (false = true) by decide)] at H; exact H
       clear H; have H := H1; clear H1
       by_cases c16 : a1 = 2
       ·rw [if_pos c16] at H
        have c16b0 : (a1 == 2) = true := beq_iff_eq.mpr c16
        have c16b1 : (a1 != 2) = false := bne_eq_false_iff_eq.mpr c16
        clear c16
        replace H := Option.bind_eq_some_iff.mp H
        obtain ⟨t319, A170, H⟩ := H
        replace H : (if t319 = true then (some 29) else (some 28)) = some r := H
        have A17 := aM A170
        clear A170
        by_cases c18 : t319 = true
        ·subst c18
         have H1 : (some 29) = some r := by rw [if_pos rfl] at H; exact H
         clear H; have H := H1; clear H1
         obtain rfl := Option.some.inj H
         go_wp2_with (first | ((with_reducible refine gate_callee (f := 45) rfl ?_); refine gL (some 22) Try.func45 #[.int .i64 a0] ?_; (with_reducible refine (impl_LeapYear.calls a0 true _ A17.out).mono ?_); rintro e w' ⟨rfl, ⟨nd, rfl⟩⟩; refine ⟨_, rfl, ?_⟩))
         go_ret
         exact ⟨by first | rfl | (simp; done) | (simp [*]; done), by repeat (first | exact Drawn0.refl _ | apply Drawn0.step)⟩
        ·replace c18 := Bool.eq_false_iff.mpr c18
         subst c18
         have H1 : (some 28) = some r := by rw [if_neg (show ¬ (false = true) by decide)] at H; exact H
         clear H; have H := H1; clear H1
         obtain rfl := Option.some.inj H
         go_wp2_with (first | ((with_reducible refine gate_callee (f := 45) rfl ?_); refine gL (some 22) Try.func45 #[.int .i64 a0] ?_; (with_reducible refine (impl_LeapYear.calls a0 false _ A17.out).mono ?_); rintro e w' ⟨rfl, ⟨nd, rfl⟩⟩; refine ⟨_, rfl, ?_⟩))
         go_ret
         exact ⟨by first | rfl | (simp; done) | (simp [*]; done), by repeat (first | exact Drawn0.refl _ | apply Drawn0.step)⟩
       ·rw [if_neg c16] at H
        have c16b0 : (a1 == 2) = false := beq_eq_false_iff_ne.mpr c16
        have c16b1 : (a1 != 2) = true := bne_iff_ne.mpr c16
        obtain rfl := Option.some.inj H
        go_wp2
        go_ret
        exact ⟨by first | rfl | (simp; done) | (simp [*]; done), by repeat (first | exact Drawn0.refl _ | apply Drawn0.step)⟩

end Go.Proofs.Ythomiofokkkhgaa.QFnCounts
