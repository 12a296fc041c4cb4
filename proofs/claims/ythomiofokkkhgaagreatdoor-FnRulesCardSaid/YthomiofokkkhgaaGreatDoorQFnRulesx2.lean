-- Own work (wip/turnprint.py over the kit's print).
import Derived.Test.YthomiofokkkhgaaGreatDoorQFnRulesx0
namespace Go.Proofs.YthomiofokkkhgaaGreatDoor.QFnRules
open Go.RowKit Go.Proofs.YthomiofokkkhgaaGreatDoorW.PrintWords Go.Proofs.YthomiofokkkhgaaGreatDoorW.PrintLast Go.Proofs.YthomiofokkkhgaaGreatDoorW.PrintMore
attribute [local go_sem] max2_int min2_int max_two min_two max_three min_three max_four min_four   -- for this text's walks alone
set_option linter.unusedVariables false
set_option linter.unusedSimpArgs false

/-! ### impl_CronOk: function 8 (given by the session) -/
/-- ascending numbers of a .. b behind what p tells of -/
def impl_CronOk.rise (a b : Int) : Option Int → List Int → Bool
 | _, [] => true
 | p, x :: xs => decide (a ≤ x ∧ x ≤ b) && ((match p with | none => true | some y => decide (y < x)) && impl_CronOk.rise a b (some x) xs)
def impl_CronOk.prev (l : List Int) (i : Nat) : Option Int := if i = 0 then none else some (l.getD (i - 1) 0)
theorem impl_CronOk.rise_at (a b : Int) (l : List Int) (i : Nat) (h : i < l.length) :
 impl_CronOk.rise a b (impl_CronOk.prev l i) (l.drop i) = (decide (a ≤ l.getD i 0 ∧ l.getD i 0 ≤ b) && ((if i = 0 then true else decide (l.getD (i - 1) 0 < l.getD i 0)) && impl_CronOk.rise a b (impl_CronOk.prev l (i + 1)) (l.drop (i + 1)))) := by
 have e : impl_CronOk.prev l (i + 1) = some (l.getD i 0) := by simp [impl_CronOk.prev]
 have e2 : l.drop i = l.getD i 0 :: l.drop (i + 1) := by
  rw [List.drop_eq_getElem_cons h, List.getD_eq_getElem?_getD, List.getElem?_eq_getElem h]
  rfl
 rw [e, e2]
 simp only [impl_CronOk.rise, impl_CronOk.prev]
 by_cases h0 : i = 0
 ·simp [h0]
 ·simp [h0]
def impl_CronOk.fld (a b : Int) (l : List Int) : Bool := decide (1 ≤ l.length) && impl_CronOk.rise a b none l
def impl_CronOk.f (l0 l1 l2 l3 l4 : List Int) : Option Bool := some (impl_CronOk.fld 0 59 l0 && (impl_CronOk.fld 0 23 l1 && (impl_CronOk.fld 1 31 l2 && (impl_CronOk.fld 1 12 l3 && impl_CronOk.fld 0 6 l4))))
set_option maxRecDepth 100000 in
/-- the fields' addresses -/
theorem impl_CronOk.fields (g : Nat) (w : World) :
 Calls Tryz.prog 17 #[.pointer (some ⟨g, 0, none⟩)] w fun e w' => e = .returned (.agg #[.pointer (some ⟨g, 0, none⟩), .pointer (some ⟨g, 1, none⟩), .pointer (some ⟨g, 2, none⟩), .pointer (some ⟨g, 3, none⟩), .pointer (some ⟨g, 4, none⟩)]) ∧ Below w.heap.size w w' := by
 have HB := Aside0.mk (Below.refl w.heap.size w)
 go_enter Tryz.func17, Tryz.ntmps17
 go_wp2_with ((with_reducible refine gate_dst (N := 2) rfl ?_); refine bxE 2 #[.pointer none, .pointer none, .pointer none, .pointer none, .pointer none] 42 ?_; intro gb hg w2 hbox hb; have HB2 := Aside0.mk hb; have BK := Aside0.mk hbox; have GE := Aside0.mk (show w.heap.size ≤ gb by rw [hg]; exact Nat.le_refl _); clear hb hbox hg)
 go_still_tail 16, (by kernel_rfl)
 have HB3 := Aside0.mk (below_drew1 HB2.out)
 have BK3 := Aside0.mk (blk_drew BK.out)
 clear HB2 BK
 refine store_blk rfl rfl 42 (.tmp 2) (.tmp 18) rfl (.agg #[.pointer (some ⟨g, 0, none⟩), .pointer (some ⟨g, 1, none⟩), .pointer (some ⟨g, 2, none⟩), .pointer (some ⟨g, 3, none⟩), .pointer (some ⟨g, 4, none⟩)]) [.pointer (some ⟨g, 0, none⟩), .pointer (some ⟨g, 1, none⟩), .pointer (some ⟨g, 2, none⟩), .pointer (some ⟨g, 3, none⟩), .pointer (some ⟨g, 4, none⟩)] rfl rfl rfl (by kernel_rfl) BK3.out (by simp) (by intro q hq; simp at hq; rcases hq with rfl | rfl | rfl | rfl | rfl <;> rfl) ?_
 intro w4 cur hc hcl hg
 have HG := Aside0.mk hg
 obtain rfl : cur = #[.pointer (some ⟨g, 0, none⟩), .pointer (some ⟨g, 1, none⟩), .pointer (some ⟨g, 2, none⟩), .pointer (some ⟨g, 3, none⟩), .pointer (some ⟨g, 4, none⟩)] := Array.toList_inj.mp (hcl.trans rfl)
 have BK4 := Aside0.mk hc
 clear hcl hc hg BK3
 go_wp2
 refine bodyPost_ret (results_cell_row rfl _ _ gb 42 _ (0, 0) _ rfl BK4.out Tryz.underlying42 rfl (by kernel_rfl)) rfl ⟨rfl, ?_⟩
 exact (HB3.out).grown HG.out (below_size HB3.out) (fun k hk => by injection hk with hk; subst hk; exact GE.out)
/-- the bounds of a field -/
def impl_CronOk.lo (i : Nat) : Int := if i = 2 ∨ i = 3 then 1 else 0
def impl_CronOk.hi (i : Nat) : Int := if i = 0 then 59 else if i = 1 then 23 else if i = 2 then 31 else if i = 3 then 12 else 6
set_option maxHeartbeats 2000000 in
theorem impl_CronOk.bnd (i : Nat) (w : World) (hi : i < 5) :
 Calls Tryz.prog 23 #[.int .i64 (i : Int)] w fun e w' => e = .returned (.tuple #[.int .i64 (impl_CronOk.lo i), .int .i64 (impl_CronOk.hi i)]) ∧ w = w' := by
 obtain rfl | rfl | rfl | rfl | rfl : i = 0 ∨ i = 1 ∨ i = 2 ∨ i = 3 ∨ i = 4 := by omega
 all_goals
  go_enter Tryz.func23, Tryz.ntmps23
  go_wp2
  go_ret2
  exact ⟨rfl, rfl⟩
theorem impl_CronOk.inr (x a b : Int) (z : Bool) (w : World) (hz : decide (a ≤ x ∧ x ≤ b) = z) :
 Calls Tryz.prog 24 #[.int .i64 x, .int .i64 a, .int .i64 b] w fun e w' => e = .returned (.bool z) ∧ w = w' := by
 by_cases h1 : a ≤ x
 ·by_cases h2 : x ≤ b
  ·rw [decide_eq_true (show a ≤ x ∧ x ≤ b from ⟨h1, h2⟩)] at hz
   subst hz
   go_enter Tryz.func24, Tryz.ntmps24
   go_wp2
   go_ret
   exact ⟨rfl, rfl⟩
  ·rw [decide_eq_false (show ¬ (a ≤ x ∧ x ≤ b) from fun h => h2 h.2)] at hz
   subst hz
   go_enter Tryz.func24, Tryz.ntmps24
   go_wp2
   go_ret
   exact ⟨rfl, rfl⟩
 ·rw [decide_eq_false (show ¬ (a ≤ x ∧ x ≤ b) from fun h => h1 h.1)] at hz
  subst hz
  go_enter Tryz.func24, Tryz.ntmps24
  go_wp2
  go_ret
  exact ⟨rfl, rfl⟩
/-- the field's list -/
def impl_CronOk.nth (l0 l1 l2 l3 l4 : List Int) (i : Nat) : List Int := if i = 0 then l0 else if i = 1 then l1 else if i = 2 then l2 else if i = 3 then l3 else l4
/-- the fields of the last d places are as they are wanted -/
def impl_CronOk.rest (L : Nat → List Int) : Nat → Bool
 | 0 => true
 | d + 1 => impl_CronOk.fld (impl_CronOk.lo (4 - d)) (impl_CronOk.hi (4 - d)) (L (4 - d)) && impl_CronOk.rest L d
theorem impl_CronOk.rest_at (L : Nat → List Int) (i : Nat) (h : i < 5) : impl_CronOk.rest L (5 - i) = (impl_CronOk.fld (impl_CronOk.lo i) (impl_CronOk.hi i) (L i) && impl_CronOk.rest L (5 - (i + 1))) := by
 have e : 5 - i = (5 - (i + 1)) + 1 := by omega
 rw [e]
 show (impl_CronOk.fld (impl_CronOk.lo (4 - (5 - (i + 1)))) (impl_CronOk.hi (4 - (5 - (i + 1)))) (L (4 - (5 - (i + 1)))) && _) = _
 rw [show 4 - (5 - (i + 1)) = i by omega]
theorem impl_CronOk.index5 (g i : Nat) (h : i < 5) (W : World) : (Instr.index 42 (.agg #[.pointer (some ⟨g, 0, none⟩), .pointer (some ⟨g, 1, none⟩), .pointer (some ⟨g, 2, none⟩), .pointer (some ⟨g, 3, none⟩), .pointer (some ⟨g, 4, none⟩)]) (.int .i64 (i : Int))).run Tryz.prog W = .ok (.pointer (some ⟨g, i, none⟩)) W := by
 obtain rfl | rfl | rfl | rfl | rfl : i = 0 ∨ i = 1 ∨ i = 2 ∨ i = 3 ∨ i = 4 := by omega
 all_goals kernel_rfl
/-- what lies behind a field -/
def impl_CronOk.Row (W : World) (g : Nat) (l : List Int) (i : Nat) : Prop := ∃ A c, W.cell? ⟨g, i, none⟩ = some (.slice A l.length c) ∧ l.length ≤ c ∧ Kd.C (Kd.int .i64) W A l.length l
theorem impl_CronOk.fld_nil (a b : Int) (l : List Int) (h : l.length = 0) : impl_CronOk.fld a b l = false := by
 unfold impl_CronOk.fld
 rw [decide_eq_false (by omega), Bool.false_and]
theorem impl_CronOk.fld_rise (a b : Int) (l : List Int) (h : ¬ l.length = 0) : impl_CronOk.fld a b l = impl_CronOk.rise a b none l := by
 unfold impl_CronOk.fld
 rw [decide_eq_true (by omega), Bool.true_and]
set_option maxHeartbeats 8000000 in
set_option maxRecDepth 100000 in
theorem impl_CronOk.calls (A0 : Option Addr) (c0 : Nat) (l0 : List Int) (A1 : Option Addr) (c1 : Nat) (l1 : List Int) (A2 : Option Addr) (c2 : Nat) (l2 : List Int) (A3 : Option Addr) (c3 : Nat) (l3 : List Int) (A4 : Option Addr) (c4 : Nat) (l4 : List Int) (r : Bool) (w : World)
 (hr0 : Kd.C (Kd.int .i64) w A0 l0.length l0) (hc0 : l0.length ≤ c0) (hr1 : Kd.C (Kd.int .i64) w A1 l1.length l1) (hc1 : l1.length ≤ c1) (hr2 : Kd.C (Kd.int .i64) w A2 l2.length l2) (hc2 : l2.length ≤ c2) (hr3 : Kd.C (Kd.int .i64) w A3 l3.length l3) (hc3 : l3.length ≤ c3) (hr4 : Kd.C (Kd.int .i64) w A4 l4.length l4) (hc4 : l4.length ≤ c4)
 (h : impl_CronOk.f l0 l1 l2 l3 l4 = some r) :
 Calls Tryz.prog 8 #[.agg #[.slice A0 l0.length c0, .slice A1 l1.length c1, .slice A2 l2.length c2, .slice A3 l3.length c3, .slice A4 l4.length c4]] w fun e w' => e = .returned (.bool r) ∧ Below w.heap.size w w' := by
 have hL : impl_CronOk.rest (impl_CronOk.nth l0 l1 l2 l3 l4) (5 - 0) = r := Option.some.inj ((show some (impl_CronOk.rest (impl_CronOk.nth l0 l1 l2 l3 l4) (5 - 0)) = impl_CronOk.f l0 l1 l2 l3 l4 by simp [impl_CronOk.rest, impl_CronOk.f, impl_CronOk.nth, impl_CronOk.lo, impl_CronOk.hi]).trans h)
 clear h
 have HL := Aside0.mk hL
 clear hL
 have HR0 := Aside0.mk hr0
 have HR1 := Aside0.mk hr1
 have HR2 := Aside0.mk hr2
 have HR3 := Aside0.mk hr3
 have HR4 := Aside0.mk hr4
 clear hr0 hr1 hr2 hr3 hr4
 have HC := Aside0.mk (⟨hc0, hc1, hc2, hc3, hc4⟩ : l0.length ≤ c0 ∧ l1.length ≤ c1 ∧ l2.length ≤ c2 ∧ l3.length ≤ c3 ∧ l4.length ≤ c4)
 clear hc0 hc1 hc2 hc3 hc4
 go_enter Tryz.func8, Tryz.ntmps8
 go_wp2_with (first | ((with_reducible refine gate_dst (N := 1) rfl ?_); refine bxE 1 #[.slice A0 l0.length c0, .slice A1 l1.length c1, .slice A2 l2.length c2, .slice A3 l3.length c3, .slice A4 l4.length c4] 26 ?_; intro gb hg w2 hbox hb; have HB2 := Aside0.mk hb; have BK := Aside0.mk hbox; clear hb hbox hg) | (go_at_call 17; refine (impl_CronOk.fields _ _).mono ?_; rintro e w4 ⟨rfl, hb4⟩; have HB4 := Aside0.mk hb4; clear hb4))
 have HB := Aside0.mk (below_step HB2.out HB4.out)
 have BK4 := Aside0.mk (blk_below BK.out HB4.out)
 have HRow : Aside0 (∀ i, i < 5 → impl_CronOk.Row w4 gb (impl_CronOk.nth l0 l1 l2 l3 l4 i) i) := ⟨by
  have b : ∀ {A n l}, Kd.C (Kd.int .i64) w A n l → Kd.C (Kd.int .i64) w4 A n l := fun h => Kd.C_below h HB.out
  intro i hi
  obtain rfl | rfl | rfl | rfl | rfl : i = 0 ∨ i = 1 ∨ i = 2 ∨ i = 3 ∨ i = 4 := by omega
  ·exact ⟨_, _, (blk_cell BK4.out 0).trans rfl, HC.out.1, b HR0.out⟩
  ·exact ⟨_, _, (blk_cell BK4.out 1).trans rfl, HC.out.2.1, b HR1.out⟩
  ·exact ⟨_, _, (blk_cell BK4.out 2).trans rfl, HC.out.2.2.1, b HR2.out⟩
  ·exact ⟨_, _, (blk_cell BK4.out 3).trans rfl, HC.out.2.2.2.1, b HR3.out⟩
  ·exact ⟨_, _, (blk_cell BK4.out 4).trans rfl, HC.out.2.2.2.2, b HR4.out⟩⟩
 clear HR0 HR1 HR2 HR3 HR4 HC BK BK4 HB2 HB4
 generalize impl_CronOk.nth l0 l1 l2 l3 l4 = L at HRow HL
 go_loop [11] (fun v11 => ∃ i : Nat, i ≤ 5 ∧ v11 = .int .i64 (i : Int) ∧ Aside0 (impl_CronOk.rest L (5 - i) = r)) (fun v11 => 5 - (intOf v11).toNat)
 case atStart => exact ⟨0, by omega, rfl, HL⟩
 case round =>
  clear HL
  obtain ⟨i, hi, rfl, HI⟩ := hrel
  by_cases hlt : i < 5
  ·have hix := impl_CronOk.index5 gb i hlt
   have HI2 := Aside0.mk ((impl_CronOk.rest_at L i hlt).symm.trans HI.out)
   obtain ⟨A, c, hcell, hc, hC⟩ := HRow.out i hlt
   have HC := Aside0.mk hC
   clear hC
   by_cases h0 : (L i).length = 0
   ·have HF := Aside0.mk (show false = r by rw [← HI2.out, impl_CronOk.fld_nil _ _ _ h0, Bool.false_and])
    have hq0 : decide ((0 : Int) < ((L i).length : Int)) = false := decide_eq_false (by omega)
    rw [h0] at hcell
    clear hc HI HI2
    go_wp2_with (first | (go_at_call 23; refine (impl_CronOk.bnd i _ hlt).mono ?_; rintro e w' ⟨rfl, rfl⟩))
    go_loop [25] (fun v25 => v25 = .int .i64 0) (fun _ => 0)
    case atStart => rfl
    case round =>
     obtain rfl := hrel
     go_wp2
     go_ret
     exact ⟨congrArg (fun b_ => Ending.returned (Value.bool b_)) HF.out, HB.out⟩
   ·obtain ⟨ad, hA, _⟩ := HC.out.2.2 (by omega)
    subst hA
    have HI3 := Aside0.mk (show (impl_CronOk.rise (impl_CronOk.lo i) (impl_CronOk.hi i) none (L i) && impl_CronOk.rest L (5 - (i + 1))) = r by rw [← HI2.out, impl_CronOk.fld_rise _ _ _ h0])
    clear HI HI2
    have hlen : ((L i).length : Int) ≤ 9223372036854775807 := by have := HC.out.2.1; omega
    go_wp2_with (first | (go_at_call 23; refine (impl_CronOk.bnd i _ hlt).mono ?_; rintro e w' ⟨rfl, rfl⟩))
    go_loop [25] (fun v25 => ∃ k : Nat, k ≤ (L i).length ∧ v25 = .int .i64 (k : Int) ∧ Aside0 (impl_CronOk.rise (impl_CronOk.lo i) (impl_CronOk.hi i) (impl_CronOk.prev (L i) k) ((L i).drop k) = impl_CronOk.rise (impl_CronOk.lo i) (impl_CronOk.hi i) none (L i))) (fun v25 => (L i).length - (intOf v25).toNat)
    case atStart => exact ⟨0, Nat.zero_le _, rfl, ⟨rfl⟩⟩
    case round =>
     obtain ⟨k, hk, rfl, HK⟩ := hrel
     by_cases hkl : k < (L i).length
     ·have HK2 := Aside0.mk ((impl_CronOk.rise_at (impl_CronOk.lo i) (impl_CronOk.hi i) (L i) k hkl).symm.trans HK.out)
      have hx : w4.cell? (ad.add k) = some (.int .i64 ((L i).getD k 0)) := by
       obtain ⟨ad2, he, h1⟩ := Kd.at_int HC.out (k : Int) (by omega) (by omega)
       injection he with he
       subst he
       exact h1
      obtain ⟨x, hxv⟩ : ∃ x, x = (L i).getD k 0 := ⟨_, rfl⟩
      rw [← hxv] at hx HK2
      clear hxv HK
      by_cases hr : impl_CronOk.lo i ≤ x ∧ x ≤ impl_CronOk.hi i
      ·by_cases hz : k = 0
       ·subst hz
        have hx : w4.cell? ad = some (.int .i64 x) := by simpa [Addr.add] using hx
        have HK3 := Aside0.mk (show impl_CronOk.rise (impl_CronOk.lo i) (impl_CronOk.hi i) (impl_CronOk.prev (L i) (0 + 1)) ((L i).drop (0 + 1)) = impl_CronOk.rise (impl_CronOk.lo i) (impl_CronOk.hi i) none (L i) by rw [← HK2.out, decide_eq_true hr, if_pos rfl, Bool.true_and, Bool.true_and])
        clear HK2
        have HD := Aside0.mk (decide_eq_true hr)
        clear hr
        go_wp2_with (first | (go_at_call 24; refine (impl_CronOk.inr _ _ _ _ _ HD.out).mono ?_; rintro e w' ⟨rfl, rfl⟩))
        go_round
        case rel => exact ⟨0 + 1, by omega, by go_num, HK3⟩
        case measure => simp [intOf]; omega
       ·have hy : w4.cell? (ad.add (k - 1)) = some (.int .i64 ((L i).getD (k - 1) 0)) := by
         obtain ⟨ad2, he, h1⟩ := Kd.at_int HC.out ((k - 1 : Nat) : Int) (by omega) (by omega)
         injection he with he
         subst he
         exact h1
        obtain ⟨y, hyv⟩ : ∃ y, y = (L i).getD (k - 1) 0 := ⟨_, rfl⟩
        rw [← hyv] at hy HK2
        clear hyv
        have HD := Aside0.mk (decide_eq_true hr)
        by_cases hp : y < x
        ·have HK3 := Aside0.mk (show impl_CronOk.rise (impl_CronOk.lo i) (impl_CronOk.hi i) (impl_CronOk.prev (L i) (k + 1)) ((L i).drop (k + 1)) = impl_CronOk.rise (impl_CronOk.lo i) (impl_CronOk.hi i) none (L i) by rw [← HK2.out, decide_eq_true hr, if_neg hz, decide_eq_true hp, Bool.true_and, Bool.true_and])
         clear HK2 hr
         go_wp2_with (first | (go_at_call 24; refine (impl_CronOk.inr _ _ _ _ _ HD.out).mono ?_; rintro e w' ⟨rfl, rfl⟩))
         go_round
         case rel => exact ⟨k + 1, by omega, by go_num, HK3⟩
         case measure => simp [intOf]; omega
        ·have HF := Aside0.mk (show false = r by rw [← HI3.out, ← HK2.out, decide_eq_true hr, if_neg hz, decide_eq_false hp]; simp)
         clear HK2 hr HI3
         go_wp2_with (first | (go_at_call 24; refine (impl_CronOk.inr _ _ _ _ _ HD.out).mono ?_; rintro e w' ⟨rfl, rfl⟩))
         go_ret
         exact ⟨congrArg (fun b_ => Ending.returned (Value.bool b_)) HF.out, HB.out⟩
      ·have HD := Aside0.mk (decide_eq_false hr)
       have HF := Aside0.mk (show false = r by rw [← HI3.out, ← HK2.out, decide_eq_false hr]; simp)
       clear HK2 hr HI3
       go_wp2_with (first | (go_at_call 24; refine (impl_CronOk.inr _ _ _ _ _ HD.out).mono ?_; rintro e w' ⟨rfl, rfl⟩))
       go_ret
       exact ⟨congrArg (fun b_ => Ending.returned (Value.bool b_)) HF.out, HB.out⟩
     ·obtain rfl : k = (L i).length := by omega
      have HN := Aside0.mk (show impl_CronOk.rest L (5 - (i + 1)) = r by
       rw [← HI3.out, ← HK.out, List.drop_eq_nil_of_le (Nat.le_refl _)]
       cases impl_CronOk.prev (L i) (L i).length <;> simp [impl_CronOk.rise])
      clear HK HI3
      go_wp2
      go_round
      case rel => exact ⟨i + 1, by omega, by go_num, HN⟩
      case measure => simp [intOf]; omega
  ·obtain rfl : i = 5 := by omega
   have HF := Aside0.mk (show true = r from HI.out)
   clear HI
   go_wp2
   go_ret
   exact ⟨congrArg (fun b_ => Ending.returned (Value.bool b_)) HF.out, HB.out⟩

/-! ### impl_bounds: function 23 -/
def impl_bounds.f (a0 : Int) : Option (Int × Int) := if a0 = 0 then (some (0, 59)) else (if a0 = 1 then (some (0, 23)) else (if a0 = 2 then (some (1, 31)) else (if a0 = 3 then (some (1, 12)) else (some (0, 6)))))
set_option maxHeartbeats 8000000 in
set_option maxRecDepth 100000 in
theorem impl_bounds.calls (a0 : Int) (r1 : Int) (r2 : Int) (w : World) (h : impl_bounds.f a0 = some (r1, r2)) :
 Calls Tryz.prog 23 #[.int .i64 a0] w fun e w' => e = .returned (.tuple #[.int .i64 r1, .int .i64 r2]) ∧ Drawn0 w w' := by
 have H : (if a0 = 0 then (some (0, 59)) else (if a0 = 1 then (some (0, 23)) else (if a0 = 2 then (some (1, 31)) else (if a0 = 3 then (some (1, 12)) else (some (0, 6)))))) = some (r1, r2) := h
 clear h
 by_cases c2 : a0 = 0
 ·rw [if_pos c2] at H
  have c2b0 : (a0 == 0) = true := beq_iff_eq.mpr c2
  have c2b1 : (a0 != 0) = false := bne_eq_false_iff_eq.mpr c2
  clear c2
  simp only [Option.some.injEq, Prod.mk.injEq] at H
  obtain ⟨rfl, rfl⟩ := H
  go_enter Tryz.func23, Tryz.ntmps23
  go_wp2
  go_ret2
  exact ⟨by first | rfl | (simp; done) | (simp [*]; done), by repeat (first | exact Drawn0.refl _ | apply Drawn0.step)⟩
 ·rw [if_neg c2] at H
  have c2b0 : (a0 == 0) = false := beq_eq_false_iff_ne.mpr c2
  have c2b1 : (a0 != 0) = true := bne_iff_ne.mpr c2
  by_cases c3 : a0 = 1
  ·rw [if_pos c3] at H
   have c3b0 : (a0 == 1) = true := beq_iff_eq.mpr c3
   have c3b1 : (a0 != 1) = false := bne_eq_false_iff_eq.mpr c3
   clear c3
   simp only [Option.some.injEq, Prod.mk.injEq] at H
   obtain ⟨rfl, rfl⟩ := H
   go_enter Tryz.func23, Tryz.ntmps23
   go_wp2
   go_ret2
   exact ⟨by first | rfl | (simp; done) | (simp [*]; done), by repeat (first | exact Drawn0.refl _ | apply Drawn0.step)⟩
  ·rw [if_neg c3] at H
   have c3b0 : (a0 == 1) = false := beq_eq_false_iff_ne.mpr c3
   have c3b1 : (a0 != 1) = true := bne_iff_ne.mpr c3
   by_cases c4 : a0 = 2
   ·rw [if_pos c4] at H
    have c4b0 : (a0 == 2) = true := beq_iff_eq.mpr c4
    have c4b1 : (a0 != 2) = false := bne_eq_false_iff_eq.mpr c4
    clear c4
    simp only [Option.some.injEq, Prod.mk.injEq] at H
    obtain ⟨rfl, rfl⟩ := H
    go_enter Tryz.func23, Tryz.ntmps23
    go_wp2
    go_ret2
    exact ⟨by first | rfl | (simp; done) | (simp [*]; done), by repeat (first | exact Drawn0.refl _ | apply Drawn0.step)⟩
   ·rw [if_neg c4] at H
    have c4b0 : (a0 == 2) = false := beq_eq_false_iff_ne.mpr c4
    have c4b1 : (a0 != 2) = true := bne_iff_ne.mpr c4
    by_cases c5 : a0 = 3
    ·rw [if_pos c5] at H
     have c5b0 : (a0 == 3) = true := beq_iff_eq.mpr c5
     have c5b1 : (a0 != 3) = false := bne_eq_false_iff_eq.mpr c5
     clear c5
     simp only [Option.some.injEq, Prod.mk.injEq] at H
     obtain ⟨rfl, rfl⟩ := H
     go_enter Tryz.func23, Tryz.ntmps23
     go_wp2
     go_ret2
     exact ⟨by first | rfl | (simp; done) | (simp [*]; done), by repeat (first | exact Drawn0.refl _ | apply Drawn0.step)⟩
    ·rw [if_neg c5] at H
     have c5b0 : (a0 == 3) = false := beq_eq_false_iff_ne.mpr c5
     have c5b1 : (a0 != 3) = true := bne_iff_ne.mpr c5
     simp only [Option.some.injEq, Prod.mk.injEq] at H
     obtain ⟨rfl, rfl⟩ := H
     go_enter Tryz.func23, Tryz.ntmps23
     go_wp2
     go_ret2
     exact ⟨by first | rfl | (simp; done) | (simp [*]; done), by repeat (first | exact Drawn0.refl _ | apply Drawn0.step)⟩

/-! ### impl_isAll: function 18 -/
def impl_isAll.f (l0 : List Int) (a1 : Int) : Option (Bool) := (impl_bounds.f a1).bind fun bt198 => (some ((l0.length : Int) == (wrap64 ((wrap64 (bt198.2 - bt198.1)) + 1))))
set_option maxHeartbeats 8000000 in
set_option maxRecDepth 100000 in
theorem impl_isAll.calls (A0 : Option Addr) (c0 : Nat) (l0 : List Int) (a1 : Int) (r : Bool) (w : World) (hr0 : Kd.C (Kd.int .i64) w A0 l0.length l0) (hc0 : l0.length ≤ c0) (h : impl_isAll.f l0 a1 = some r) :
 Calls Tryz.prog 18 #[.slice A0 l0.length c0, .int .i64 a1] w fun e w' => e = .returned (.bool r) ∧ Drawn0 w w' := by
 have HR0 := aM hr0
 have HC0 := aM hc0
 clear hr0 hc0
 have H : ((impl_bounds.f a1).bind fun bt198 => (some ((l0.length : Int) == (wrap64 ((wrap64 (bt198.2 - bt198.1)) + 1))))) = some r := h
 clear h
 replace H := Option.bind_eq_some_iff.mp H
 obtain ⟨⟨t198, t199⟩, A30, H⟩ := H
 replace H : (some ((l0.length : Int) == (wrap64 ((wrap64 (t199 - t198)) + 1)))) = some r := H
 have A3 := aM A30
 clear A30
 obtain rfl := Option.some.inj H
 go_enter Tryz.func18, Tryz.ntmps18
 go_wp2_with (first | ((with_reducible refine gate_callee (f := 23) rfl ?_); refine gL (some 9) Tryz.func23 #[.int .i64 a1] ?_; (with_reducible refine (impl_bounds.calls a1 t198 t199 _ A3.out).mono ?_); rintro e w' ⟨rfl, ⟨nd, rfl⟩⟩; refine ⟨_, rfl, ?_⟩))
 go_ret
 exact ⟨by first | rfl | (simp; done) | (simp [*]; done), by repeat (first | exact Drawn0.refl _ | apply Drawn0.step)⟩

/-! ### impl_CronText: function 6 (given by the session) -/
/-- the figures of a small number -/
def impl_CronText.dec (x : Int) : ByteArray := ⟨(Lib.decDigits x.toNat).toArray⟩
def impl_CronText.join (sep : ByteArray) (xs : List ByteArray) : ByteArray := ⟨(Lib.join (xs.map (·.data.toList)) sep.data.toList).toArray⟩
def impl_CronText.size (i : Nat) : Nat := if i = 0 then 60 else if i = 1 then 24 else if i = 2 then 31 else if i = 3 then 12 else 7
def impl_CronText.show (i : Nat) (l : List Int) : ByteArray := if l.length = impl_CronText.size i then ⟨#[42]⟩ else impl_CronText.join ⟨#[44]⟩ (l.map impl_CronText.dec)
/-- numbers that are told by two figures at most, and not many -/
def impl_CronText.small (l : List Int) : Bool := l.all (fun x => decide (0 ≤ x) && decide (x < 100)) && decide (l.length ≤ 1000)
def impl_CronText.parts (L : Nat → List Int) (i : Nat) : List ByteArray := (List.range i).map (fun j => impl_CronText.show j (L j))
def impl_CronText.f (l0 l1 l2 l3 l4 : List Int) : Option (ByteArray × Bool) :=
 (impl_CronOk.f l0 l1 l2 l3 l4).bind fun t => if t = true then (if impl_CronText.small l0 = true ∧ impl_CronText.small l1 = true ∧ impl_CronText.small l2 = true ∧ impl_CronText.small l3 = true ∧ impl_CronText.small l4 = true then some (impl_CronText.join ⟨#[32]⟩ (impl_CronText.parts (impl_CronOk.nth l0 l1 l2 l3 l4) 5), true) else none) else some (⟨#[]⟩, false)
theorem impl_CronText.parts_succ (L : Nat → List Int) (i : Nat) : impl_CronText.parts L (i + 1) = impl_CronText.parts L i ++ [impl_CronText.show i (L i)] := by
 unfold impl_CronText.parts
 rw [List.range_succ, List.map_append]
 rfl
theorem impl_CronText.parts_length (L : Nat → List Int) (i : Nat) : (impl_CronText.parts L i).length = i := by simp [impl_CronText.parts]
theorem impl_CronText.digits_small : ∀ n, n < 100 → (Lib.decDigits n).length ≤ 2 := of_decide_eq_true (by kernel_rfl)
theorem impl_CronText.join_le (sep : List UInt8) : ∀ (xs : List (List UInt8)) (n m : Nat), sep.length ≤ m → (∀ x ∈ xs, x.length ≤ n) → (Lib.join xs sep).length ≤ xs.length * (n + m) := by
 intro xs
 induction xs with
 | nil => intro n m _ _; simp [Lib.join]
 | cons x xs ih =>
  intro n m hm h
  have h1 := h x (List.mem_cons_self ..)
  have h2 := ih n m hm (fun y hy => h y (List.mem_cons_of_mem _ hy))
  cases xs with
  | nil => simp [Lib.join]; omega
  | cons y ys =>
   have e : Lib.join (x :: y :: ys) sep = x ++ (sep ++ Lib.join (y :: ys) sep) := by simp [Lib.join, List.intercalate]
   rw [e, List.length_append, List.length_append, List.length_cons, Nat.succ_mul]
   omega
theorem impl_CronText.dec_le (x : Int) (h : x < 100) : (impl_CronText.dec x).data.toList.length ≤ 2 := by
 show (Lib.decDigits x.toNat).length ≤ 2
 exact impl_CronText.digits_small x.toNat (by omega)
theorem impl_CronText.decs_le (l : List Int) (h : ∀ x ∈ l, 0 ≤ x ∧ x < 100) : (Lib.join ((l.map impl_CronText.dec).map (·.data.toList)) [44]).length ≤ l.length * 3 := by
 have := impl_CronText.join_le [44] ((l.map impl_CronText.dec).map (·.data.toList)) 2 1 (by simp) (by
  intro x hx
  simp only [List.mem_map] at hx
  obtain ⟨y, ⟨z, hz, rfl⟩, rfl⟩ := hx
  exact impl_CronText.dec_le z (h z hz).2)
 simpa using this
theorem impl_CronText.show_le (i : Nat) (l : List Int) (h : ∀ x ∈ l, 0 ≤ x ∧ x < 100) (hl : l.length ≤ 1000) : (impl_CronText.show i l).data.toList.length ≤ 3000 := by
 unfold impl_CronText.show
 split
 ·simp
 ·have := impl_CronText.decs_le l h
  show (Lib.join ((l.map impl_CronText.dec).map (·.data.toList)) [44]).length ≤ 3000
  omega
theorem impl_CronText.small_mem {l : List Int} (h : impl_CronText.small l = true) : (∀ x ∈ l, 0 ≤ x ∧ x < 100) ∧ l.length ≤ 1000 := by
 unfold impl_CronText.small at h
 simp only [Bool.and_eq_true, List.all_eq_true, decide_eq_true_eq] at h
 exact h
theorem impl_CronText.decimal (x : Int) (h0 : 0 ≤ x) (h1 : x < 100) (w : World) : Calls Tryz.prog 19 #[.int .i64 x] w fun e w' => e = .returned (.string (impl_CronText.dec x)) ∧ w' = w := by
 obtain ⟨n, rfl⟩ := Int.eq_ofNat_of_zero_le h0
 go_enter Tryz.func19, Tryz.ntmps19
 go_wp2_with (go_at_call 34; refine (Tryz.strconv_Itoa_small n (by omega) _).mono ?_; rintro e w' ⟨rfl, rfl⟩)
 go_ret
 exact ⟨rfl, rfl⟩
theorem impl_CronText.eq_nat (n m : Nat) (x : Int) (hx : x = (m : Int)) : ((n : Int) == x) = decide (n = m) := by
 subst hx
 by_cases h : n = m
 ·subst h; simp
 ·rw [decide_eq_false h]
  exact beq_eq_false_iff_ne.2 (fun e => h (by omega))
theorem impl_CronText.isAll (L : Nat → List Int) (i : Nat) (hi : i < 5) : impl_isAll.f (L i) (i : Int) = some (decide ((L i).length = impl_CronText.size i)) := by
 obtain rfl | rfl | rfl | rfl | rfl : i = 0 ∨ i = 1 ∨ i = 2 ∨ i = 3 ∨ i = 4 := by omega
 ·exact congrArg some (impl_CronText.eq_nat _ 60 _ (by unfold wrap64; omega))
 ·exact congrArg some (impl_CronText.eq_nat _ 24 _ (by unfold wrap64; omega))
 ·exact congrArg some (impl_CronText.eq_nat _ 31 _ (by unfold wrap64; omega))
 ·exact congrArg some (impl_CronText.eq_nat _ 12 _ (by unfold wrap64; omega))
 ·exact congrArg some (impl_CronText.eq_nat _ 7 _ (by unfold wrap64; omega))
/-- a row of strings of one's own, handed to strings.Join -/
theorem impl_CronText.joined (base : Nat) (v : Value) (xs : List ByteArray) (sep : ByteArray) (w : World) (h : Kd.R Kd.string 9 w base (fun _ => True) v xs) (hN : xs.length ≤ 1000) (hlen : (Lib.join (xs.map (·.data.toList)) sep.data.toList).length ≤ 140737488355328) :
 Calls Tryz.prog 20 #[v, .string sep] w fun e w' => e = .returned (.string (impl_CronText.join sep xs)) ∧ Below w.heap.size w w' := by
 cases hxs : xs with
 | nil =>
  subst hxs
  obtain ⟨A, c, rfl⟩ := Kd.R_slice h
  refine (Tryz.strings_Join_none A c sep w).mono ?_
  rintro e w' ⟨rfl, rfl⟩
  exact ⟨rfl, Below.refl _ _⟩
 | cons x0 r0 =>
  rw [← hxs]
  have hpos : 0 < xs.length := by rw [hxs]; simp
  obtain ⟨inner, ho⟩ := Kd.R_own h
  obtain ⟨g, c, rfl, _, hg⟩ := World.ownsRow.form ho hpos
  have hcap := (Kd.R_reads' h).2.1
  refine Tryz.strings_Join g 0 c xs sep w (fun j x hj => ?_) hg (by omega) hcap hlen
  have hlt : j < xs.length := (List.getElem?_eq_some_iff.1 hj).1
  have hc := (Kd.R_cell (d := ByteArray.empty) h (j : Int) (by omega) (by omega)).1
  have e : rdOf ByteArray.empty xs (j : Int) = x := by
   show xs.getD j ByteArray.empty = x
   rw [List.getD_eq_getElem?_getD, hj]
   rfl
  rw [e, Int.toNat_natCast] at hc
  rw [Nat.zero_add]
  exact hc
theorem impl_CronText.meas {n j : Nat} {a b : Value} (ha : (intOf a).toNat = j + 1) (hb : (intOf b).toNat = j) (h : j < n) : n - (intOf a).toNat < n - (intOf b).toNat := by
 rw [ha, hb]
 omega
theorem impl_CronText.info9 : (Tryz.prog.info? 9).map (fun i => (i.zero, i.size, i.bytes)) = some (some (.string ⟨#[]⟩), 1, 16) := by kernel_rfl
theorem impl_CronText.row_at {W W' : World} {g : Nat} {l : List Int} {i : Nat} (h : impl_CronOk.Row W g l i) (hb : Below W.heap.size W W') : impl_CronOk.Row W' g l i := by
 obtain ⟨A, c, h1, h2, h3⟩ := h
 exact ⟨A, c, (hb.cell (World.block_lt_of_cell? W _ h1)).trans h1, h2, Kd.C_below h3 hb⟩
set_option maxHeartbeats 8000000 in
set_option maxRecDepth 100000 in
theorem impl_CronText.calls (A0 : Option Addr) (c0 : Nat) (l0 : List Int) (A1 : Option Addr) (c1 : Nat) (l1 : List Int) (A2 : Option Addr) (c2 : Nat) (l2 : List Int) (A3 : Option Addr) (c3 : Nat) (l3 : List Int) (A4 : Option Addr) (c4 : Nat) (l4 : List Int) (r1 : ByteArray) (r2 : Bool) (w : World)
 (hr0 : Kd.C (Kd.int .i64) w A0 l0.length l0) (hc0 : l0.length ≤ c0) (hr1 : Kd.C (Kd.int .i64) w A1 l1.length l1) (hc1 : l1.length ≤ c1) (hr2 : Kd.C (Kd.int .i64) w A2 l2.length l2) (hc2 : l2.length ≤ c2) (hr3 : Kd.C (Kd.int .i64) w A3 l3.length l3) (hc3 : l3.length ≤ c3) (hr4 : Kd.C (Kd.int .i64) w A4 l4.length l4) (hc4 : l4.length ≤ c4)
 (h : impl_CronText.f l0 l1 l2 l3 l4 = some (r1, r2)) :
 Calls Tryz.prog 6 #[.agg #[.slice A0 l0.length c0, .slice A1 l1.length c1, .slice A2 l2.length c2, .slice A3 l3.length c3, .slice A4 l4.length c4]] w fun e w' => e = .returned (.tuple #[.string r1, .bool r2]) ∧ Below w.heap.size w w' := by
 have HB0 := aM (Below.refl w.heap.size w)
 obtain ⟨t, hok, H⟩ := Option.bind_eq_some_iff.mp h
 clear h
 have HR0 := aM hr0
 have HR1 := aM hr1
 have HR2 := aM hr2
 have HR3 := aM hr3
 have HR4 := aM hr4
 have HC := aM (⟨hc0, hc1, hc2, hc3, hc4⟩ : l0.length ≤ c0 ∧ l1.length ≤ c1 ∧ l2.length ≤ c2 ∧ l3.length ≤ c3 ∧ l4.length ≤ c4)
 have HOK := aM hok
 clear hr0 hr1 hr2 hr3 hr4 hc0 hc1 hc2 hc3 hc4 hok
 cases t with
 | false =>
  rw [if_neg (by decide)] at H
  obtain ⟨rfl, rfl⟩ : (⟨#[]⟩ : ByteArray) = r1 ∧ false = r2 := by simpa using H
  clear H
  go_enter Tryz.func6, Tryz.ntmps6
  go_wp2_with (first | ((with_reducible refine gate_dst (N := 1) rfl ?_); refine bxE 1 #[.slice A0 l0.length c0, .slice A1 l1.length c1, .slice A2 l2.length c2, .slice A3 l3.length c3, .slice A4 l4.length c4] 26 ?_; intro gb hg w2 hbox hb; have HB2 := aM hb; have BK := aM hbox; clear hb hbox hg; have hz0 := czA BK.out 0 (.slice A0 l0.length c0); have hz1 := czA BK.out 1 (.slice A1 l1.length c1); have hz2 := czA BK.out 2 (.slice A2 l2.length c2); have hz3 := czA BK.out 3 (.slice A3 l3.length c3); have hz4 := czA BK.out 4 (.slice A4 l4.length c4)) | (go_at_call 8; refine (impl_CronOk.calls A0 c0 l0 A1 c1 l1 A2 c2 l2 A3 c3 l3 A4 c4 l4 false _ (Kd.C_below HR0.out HB2.out) HC.out.1 (Kd.C_below HR1.out HB2.out) HC.out.2.1 (Kd.C_below HR2.out HB2.out) HC.out.2.2.1 (Kd.C_below HR3.out HB2.out) HC.out.2.2.2.1 (Kd.C_below HR4.out HB2.out) HC.out.2.2.2.2 HOK.out).mono ?_; rintro e w3 ⟨rfl, hb3⟩; have HB3 := aM (below_step HB2.out hb3); clear hb3))
  go_ret2
  exact ⟨rfl, HB3.out⟩
 | true =>
  rw [if_pos rfl] at H
  by_cases hsm : impl_CronText.small l0 = true ∧ impl_CronText.small l1 = true ∧ impl_CronText.small l2 = true ∧ impl_CronText.small l3 = true ∧ impl_CronText.small l4 = true
  case neg => rw [if_neg hsm] at H; cases H
  rw [if_pos hsm] at H
  obtain ⟨h1, rfl⟩ : impl_CronText.join ⟨#[32]⟩ (impl_CronText.parts (impl_CronOk.nth l0 l1 l2 l3 l4) 5) = r1 ∧ true = r2 := by simpa using H
  have HR := aM h1
  have HS := aM (show ∀ i, i < 5 → (∀ x ∈ impl_CronOk.nth l0 l1 l2 l3 l4 i, 0 ≤ x ∧ x < 100) ∧ (impl_CronOk.nth l0 l1 l2 l3 l4 i).length ≤ 1000 by
   intro i hi
   obtain rfl | rfl | rfl | rfl | rfl : i = 0 ∨ i = 1 ∨ i = 2 ∨ i = 3 ∨ i = 4 := by omega
   ·exact impl_CronText.small_mem hsm.1
   ·exact impl_CronText.small_mem hsm.2.1
   ·exact impl_CronText.small_mem hsm.2.2.1
   ·exact impl_CronText.small_mem hsm.2.2.2.1
   ·exact impl_CronText.small_mem hsm.2.2.2.2)
  clear H h1 hsm
  go_enter Tryz.func6, Tryz.ntmps6
  go_wp2_with (first | ((with_reducible refine gate_dst (N := 1) rfl ?_); refine bxE 1 #[.slice A0 l0.length c0, .slice A1 l1.length c1, .slice A2 l2.length c2, .slice A3 l3.length c3, .slice A4 l4.length c4] 26 ?_; intro gb hg w2 hbox hb; have HB2 := aM hb; have BK := aM hbox; clear hb hbox hg; have hz0 := czA BK.out 0 (.slice A0 l0.length c0); have hz1 := czA BK.out 1 (.slice A1 l1.length c1); have hz2 := czA BK.out 2 (.slice A2 l2.length c2); have hz3 := czA BK.out 3 (.slice A3 l3.length c3); have hz4 := czA BK.out 4 (.slice A4 l4.length c4)) | (go_at_call 8; refine (impl_CronOk.calls A0 c0 l0 A1 c1 l1 A2 c2 l2 A3 c3 l3 A4 c4 l4 true _ (Kd.C_below HR0.out HB2.out) HC.out.1 (Kd.C_below HR1.out HB2.out) HC.out.2.1 (Kd.C_below HR2.out HB2.out) HC.out.2.2.1 (Kd.C_below HR3.out HB2.out) HC.out.2.2.2.1 (Kd.C_below HR4.out HB2.out) HC.out.2.2.2.2 HOK.out).mono ?_; rintro e w3 ⟨rfl, hb3⟩; have HB3 := aM (below_step HB2.out hb3); have BK3 := aM (blk_below BK.out hb3); clear hb3) | (go_at_call 17; refine (impl_CronOk.fields _ _).mono ?_; rintro e w4 ⟨rfl, hb4⟩; have HB4 := aM (below_step HB3.out hb4); have BK4 := aM (blk_below BK3.out hb4); clear hb4))
  have HRow := aM (show ∀ i, i < 5 → impl_CronOk.Row w4 gb (impl_CronOk.nth l0 l1 l2 l3 l4 i) i by
   have b : ∀ {A n l}, Kd.C (Kd.int .i64) w A n l → Kd.C (Kd.int .i64) w4 A n l := fun h => Kd.C_below h HB4.out
   intro i hi
   obtain rfl | rfl | rfl | rfl | rfl : i = 0 ∨ i = 1 ∨ i = 2 ∨ i = 3 ∨ i = 4 := by omega
   ·exact ⟨_, _, (blk_cell BK4.out 0).trans rfl, HC.out.1, b HR0.out⟩
   ·exact ⟨_, _, (blk_cell BK4.out 1).trans rfl, HC.out.2.1, b HR1.out⟩
   ·exact ⟨_, _, (blk_cell BK4.out 2).trans rfl, HC.out.2.2.1, b HR2.out⟩
   ·exact ⟨_, _, (blk_cell BK4.out 3).trans rfl, HC.out.2.2.2.1, b HR3.out⟩
   ·exact ⟨_, _, (blk_cell BK4.out 4).trans rfl, HC.out.2.2.2.2, b HR4.out⟩)
  clear HR0 HR1 HR2 HR3 HR4 HC HOK BK BK3 BK4 HB2 HB3 HB0
  generalize impl_CronOk.nth l0 l1 l2 l3 l4 = L at HRow HR HS
  go_loopw [4, 14] (fun v4 v14 wr => ∃ i : Nat, i ≤ 5 ∧ v14 = .int .i64 (i : Int) ∧ Aside0 (Kd.R Kd.string 9 wr w4.heap.size (fun _ => True) v4 (impl_CronText.parts L i)) ∧ Aside0 (Below w4.heap.size w4 wr)) (fun v4 v14 wr => 5 - (intOf v14).toNat)
  case atStart => exact ⟨0, by omega, rfl, ⟨Kd.R_nil _ _ _ _ _⟩, ⟨Below.refl _ _⟩⟩
  case round =>
   obtain ⟨i, hi, rfl, HO, HW⟩ := hrel
   obtain ⟨wo, rfl⟩ : ∃ z, z = wr := ⟨_, rfl⟩
   by_cases hlt : i < 5
   ·have hix := impl_CronOk.index5 gb i hlt
    obtain ⟨A, c, hcell, hc, hC⟩ := impl_CronText.row_at (HRow.out i hlt) HW.out
    have HCC := aM hC
    have HCL := aM hc
    have hS := HS.out i hlt
    have HA := aM (impl_CronText.isAll L i hlt)
    clear hC hc
    by_cases hall : (L i).length = impl_CronText.size i
    ·rw [decide_eq_true hall] at HA
     have HP := aM (show impl_CronText.parts L i ++ [(⟨#[42]⟩ : ByteArray)] = impl_CronText.parts L (i + 1) by rw [impl_CronText.parts_succ, impl_CronText.show, if_pos hall])
     have HN := aM (show ((impl_CronText.parts L i).length + 1) * 16 ≤ 140737488355328 by rw [impl_CronText.parts_length]; omega)
     clear hall hS
     go_wp2_with (first | (go_at_call 18; refine (impl_isAll.calls _ _ _ _ true _ HCC.out HCL.out HA.out).mono ?_; rintro e w5 ⟨rfl, ⟨nd, rfl⟩⟩) | ((with_reducible refine gate_builtin (b := .append) (xs := #[.tmp 23, .tmp 24]) rfl ?_); at_builtin; refine Kd.R_append Kd.string (w0 := w4) w4.heap.size rfl (.tmp 23) (.tmp 24) 40 9 (.string ⟨#[]⟩) 16 rfl Tryz.underlying40 impl_CronText.info9 rfl (by decide) (by omega) _ (impl_CronText.parts L i) (⟨#[42]⟩ : ByteArray) [.string (⟨#[42]⟩ : ByteArray)] (fun _ => True) (fun _ => False) rfl rfl ?aP (fun _ hk => hk.elim) ?aF ?aO ?aB ?aS HN.out ?_; (case aP => exact rfl); (case aB => exact (uL HW)); (case aF => exact fun _ _ => trivial); (case aO => exact (uR HO)); (case aS => exact (show w4.heap.size ≤ _ from HW.out.size)); intro v6 w6 ho hb hg hat; rw [HP.out] at ho; have HO6 := aM ho; have HW6 := aM hb; clear ho hb hg hat))
     refine ⟨⟨i + 1, by omega, by rw [show (i : Int) + 1 = ((i + 1 : Nat) : Int) by omega], HO6, HW6⟩, ?_⟩
     simp only [intOf]
     omega
    ·rw [decide_eq_false hall] at HA
     have HP := aM (show impl_CronText.parts L i ++ [impl_CronText.join ⟨#[44]⟩ ((L i).map impl_CronText.dec)] = impl_CronText.parts L (i + 1) by rw [impl_CronText.parts_succ, impl_CronText.show, if_neg hall])
     have HN := aM (show ((impl_CronText.parts L i).length + 1) * 16 ≤ 140737488355328 by rw [impl_CronText.parts_length]; omega)
     have HSI := aM hS
     clear hall hS
     go_wp2_with (first | (go_at_call 18; refine (impl_isAll.calls _ _ _ _ false _ HCC.out HCL.out HA.out).mono ?_; rintro e w5 ⟨rfl, ⟨nd, rfl⟩⟩))
     go_loopw [7, 30] (fun v7 v30 wr => ∃ j : Nat, j ≤ (L i).length ∧ v30 = .int .i64 (j : Int) ∧ Aside0 (Kd.R Kd.string 9 wr wo.heap.size (fun _ => True) v7 (((L i).take j).map impl_CronText.dec)) ∧ Aside0 (Below wo.heap.size wo wr)) (fun v7 v30 wr => (L i).length - (intOf v30).toNat)
     case atStart => exact ⟨0, Nat.zero_le _, rfl, ⟨Kd.R_nil _ _ _ _ _⟩, ⟨uL (aM (Below.refl wo.heap.size wo))⟩⟩
     case round =>
      obtain ⟨j, hj, rfl, HF, HQ⟩ := hrel
      by_cases hjl : j < (L i).length
      ·obtain ⟨ad, eA, hxx⟩ := Kd.at_int (Kd.C_below HCC.out HQ.out) (j : Int) (by omega) (by omega)
       subst eA
       have hx : wr.cell? (ad.add j) = some (.int .i64 ((L i).getD j 0)) := hxx
       clear hxx
       obtain ⟨x, hxv⟩ : ∃ x, x = (L i).getD j 0 := ⟨_, rfl⟩
       have hmem : x ∈ L i := by
        rw [hxv, List.getD_eq_getElem?_getD, List.getElem?_eq_getElem hjl]
        exact List.getElem_mem _
       have HX0 := aM (HSI.out.1 x hmem)
       have HT := aM (show ((L i).take j).map impl_CronText.dec ++ [impl_CronText.dec x] = ((L i).take (j + 1)).map impl_CronText.dec by
        rw [List.take_succ_eq_append_getElem hjl, List.map_append, hxv, List.getD_eq_getElem?_getD, List.getElem?_eq_getElem hjl]
        rfl)
       have HNF := aM (show ((((L i).take j).map impl_CronText.dec).length + 1) * 16 ≤ 140737488355328 by rw [List.length_map, List.length_take]; have := HSI.out.2; omega)
       rw [← hxv] at hx
       clear hxv hmem
       have hLb : (L i).length ≤ 1000 := HSI.out.2
       have c1 : decide ((j : Int) < ((L i).length : Int)) = true := decide_eq_true (by omega)
       have p1 : (0 ≤ (j : Int)) = True := eq_true (by omega)
       have q1 : ((j : Int) < ((L i).length : Int)) = True := eq_true (by omega)
       go_wp2_with (first | (go_at_call 19; refine (impl_CronText.decimal x HX0.out.1 HX0.out.2 _).mono ?_; rintro e w' ⟨rfl, rfl⟩) | ((with_reducible refine gate_builtin (b := .append) (xs := #[.tmp 34, .tmp 37]) rfl ?_); at_builtin; refine Kd.R_append Kd.string (w0 := wo) wo.heap.size rfl (.tmp 34) (.tmp 37) 40 9 (.string ⟨#[]⟩) 16 rfl Tryz.underlying40 impl_CronText.info9 rfl (by decide) (by omega) _ (((L i).take j).map impl_CronText.dec) (impl_CronText.dec x) [.string (impl_CronText.dec x)] (fun _ => True) (fun _ => False) rfl rfl ?aP (fun _ hk => hk.elim) ?aF ?aO ?aB ?aS HNF.out ?_; (case aP => exact rfl); (case aB => exact (uL HQ)); (case aF => exact fun _ _ => trivial); (case aO => exact (uR HF)); (case aS => exact (show wo.heap.size ≤ _ from HQ.out.size)); intro v6 w6 ho hb hg hat; rw [HT.out] at ho; have HF6 := aM ho; have HQ6 := aM hb; clear ho hb hg hat))
       refine ⟨⟨j + 1, by omega, by rw [show (j : Int) + 1 = ((j + 1 : Nat) : Int) by omega], HF6, HQ6⟩, ?_⟩
       simp only [intOf]
       omega
      ·obtain rfl : j = (L i).length := by omega
       have HF2 := aM (show Kd.R Kd.string 9 wr wo.heap.size (fun _ => True) _ ((L i).map impl_CronText.dec) by have h := HF.out; rw [List.take_length] at h; exact h)
       have HJL := aM (show ((L i).map impl_CronText.dec).length ≤ 1000 by rw [List.length_map]; exact HSI.out.2)
       have HJ := aM (show (Lib.join (((L i).map impl_CronText.dec).map (·.data.toList)) (⟨#[44]⟩ : ByteArray).data.toList).length ≤ 140737488355328 by
        have h1 := impl_CronText.decs_le (L i) HSI.out.1
        have h2 := HSI.out.2
        show (Lib.join (((L i).map impl_CronText.dec).map (·.data.toList)) [44]).length ≤ _
        omega)
       have c1 : decide (((L i).length : Int) < ((L i).length : Int)) = false := decide_eq_false (by omega)
       go_wp2_with (first | (go_at_call 20; refine (impl_CronText.joined wo.heap.size _ _ _ _ HF2.out HJL.out HJ.out).mono ?_; rintro e w7 ⟨rfl, hb7⟩; have HQ7 := aM (below_step HQ.out hb7); clear hb7) | ((with_reducible refine gate_builtin (b := .append) (xs := #[.tmp 40, .tmp 43]) rfl ?_); at_builtin; refine Kd.R_append Kd.string (w0 := w4) w4.heap.size rfl (.tmp 40) (.tmp 43) 40 9 (.string ⟨#[]⟩) 16 rfl Tryz.underlying40 impl_CronText.info9 rfl (by decide) (by omega) _ (impl_CronText.parts L i) (impl_CronText.join ⟨#[44]⟩ ((L i).map impl_CronText.dec)) [.string (impl_CronText.join ⟨#[44]⟩ ((L i).map impl_CronText.dec))] (fun _ => True) (fun _ => False) rfl rfl ?aP (fun _ hk => hk.elim) ?aF ?aO ?aB ?aS HN.out ?_; (case aP => exact rfl); (case aB => exact (below_step HW.out HQ7.out)); (case aF => exact fun _ _ => trivial); (case aO => exact (Kd.R_below HO.out HQ7.out)); (case aS => exact (show w4.heap.size ≤ _ from ((below_step HW.out HQ7.out)).size)); intro v8 w8 ho hb hg hat; rw [HP.out] at ho; have HO8 := aM ho; have HW8 := aM hb; clear ho hb hg hat))
       refine ⟨⟨i + 1, by omega, by rw [show (i : Int) + 1 = ((i + 1 : Nat) : Int) by omega], HO8, HW8⟩, ?_⟩
       simp only [intOf]
       omega
   ·obtain rfl : i = 5 := by omega
    have HJ := aM (show (Lib.join ((impl_CronText.parts L 5).map (·.data.toList)) (⟨#[32]⟩ : ByteArray).data.toList).length ≤ 140737488355328 by
     have := impl_CronText.join_le [32] ((impl_CronText.parts L 5).map (·.data.toList)) 3000 1 (by simp) (by
      intro x hx
      simp only [impl_CronText.parts, List.mem_map, List.mem_range] at hx
      obtain ⟨y, ⟨j, hj, rfl⟩, rfl⟩ := hx
      exact impl_CronText.show_le j (L j) (HS.out j hj).1 (HS.out j hj).2)
     rw [List.length_map, impl_CronText.parts_length] at this
     show (Lib.join ((impl_CronText.parts L 5).map (·.data.toList)) [32]).length ≤ _
     omega)
    have HL5 := aM (show (impl_CronText.parts L 5).length ≤ 1000 by rw [impl_CronText.parts_length]; omega)
    go_wp2_with (first | (go_at_call 20; refine (impl_CronText.joined w4.heap.size _ _ _ _ HO.out HL5.out HJ.out).mono ?_; rintro e w7 ⟨rfl, hb7⟩; have HW7 := aM (below_step HW.out hb7); clear hb7))
    go_ret2
    exact ⟨congrArg (fun z => Ending.returned (Value.tuple #[Value.string z, Value.bool true])) HR.out, below_step HB4.out HW7.out⟩

/-! ### strings_Split: function 38 (given by the session) -/
def strings_Split.f (a0 : ByteArray) (a1 : ByteArray) : Option (List ByteArray) := if a0.size < 4294967281 ∧ 1 ≤ a1.size then some (Lib.splitB a1 0 (Lib.countB a0 a1) a0) else none
theorem strings_Split.calls (a0 a1 : ByteArray) (r : List ByteArray) (w : World) (h : strings_Split.f a0 a1 = some r) (htab : Cx.Ok w) :
 Calls Tryz.prog 38 #[.string a0, .string a1] w fun e w' => ∃ v0_ : Value, e = .returned (v0_) ∧ Kd.R Kd.string 9 w' w.heap.size (fun _ => True) v0_ r ∧ Below w.heap.size w w' := by
 unfold strings_Split.f at h
 by_cases hs : a0.size < 4294967281 ∧ 1 ≤ a1.size
 case neg => rw [if_neg hs] at h; cases h
 rw [if_pos hs] at h
 obtain rfl := Option.some.inj h
 exact Cx.split a0 a1 w hs.1 hs.2 htab.2

/-! ### impl_PartsOf: function 21 -/
mutual
def impl_PartsOf.l0 : Nat → ByteArray → Int → Option (List ByteArray × Bool)
 | 0, _, _ => none
 | k + 1, x0, x4 => if x4 < (x0.size : Int) then (if 0 ≤ x4 then (if (bt x0 x4) < 32 then (some (([] : List ByteArray), false)) else (if (bt x0 x4) > 126 then (some (([] : List ByteArray), false)) else (impl_PartsOf.l0 k x0 (wrap64 (x4 + 1))))) else (none)) else ((strings_Split.f x0 (⟨#[32]⟩ : ByteArray)).bind fun t200 => (impl_PartsOf.l1 k ([] : List ByteArray) t200 (t200.length : Int) 0))
def impl_PartsOf.l1 : Nat → List ByteArray → List ByteArray → Int → Int → Option (List ByteArray × Bool)
 | 0, _, _, _, _ => none
 | k + 1, x5, x28, x29, x30 => if x30 < x29 then (if 0 ≤ x30 then (if x30 < (x28.length : Int) then (if (rdOf ByteArray.empty x28 x30).toList = ([] : List UInt8) then (impl_PartsOf.l1 k x5 x28 x29 (wrap64 (x30 + 1))) else (if x5.length < 8796093022208 then (impl_PartsOf.l1 k (x5 ++ [rdOf ByteArray.empty x28 x30]) x28 x29 (wrap64 (x30 + 1))) else (none))) else (none)) else (none)) else (if (x5.length : Int) > 10 then (some (([] : List ByteArray), false)) else (some (x5, true)))
end
def impl_PartsOf.f (k : Nat) (a0 : ByteArray) : Option (List ByteArray × Bool) := if (a0.size : Int) > 600 then (some (([] : List ByteArray), false)) else (impl_PartsOf.l0 k a0 0)
theorem impl_PartsOf.mono_l : ∀ k, (∀ y0 y1, LeO (impl_PartsOf.l0 k y0 y1) (impl_PartsOf.l0 (k + 1) y0 y1)) ∧ (∀ y0 y1 y2 y3, LeO (impl_PartsOf.l1 k y0 y1 y2 y3) (impl_PartsOf.l1 (k + 1) y0 y1 y2 y3))
 | 0 => ⟨fun _ _ r h => by simp [impl_PartsOf.l0] at h, fun _ _ _ _ r h => by simp [impl_PartsOf.l1] at h⟩
 | k + 1 => by
  obtain ⟨ih0, ih1⟩ := impl_PartsOf.mono_l k
  refine ⟨?_, ?_⟩
  ·intro y0 y1
   unfold impl_PartsOf.l0
   repeat' first
   | (with_reducible exact ih0 _ _)
   | (with_reducible exact ih1 _ _ _ _)
   | (with_reducible exact LeO.refl _)
   | (with_reducible exact LeO.none _)
   | (with_reducible refine LeO.ite ?_ ?_)
   | (with_reducible refine LeO.bind ?_ (fun _ => ?_))
   | exact ih0 _ _
   | exact ih1 _ _ _ _
   | exact LeO.none _
   | refine LeO.ite ?_ ?_
   | refine LeO.bind ?_ (fun _ => ?_)
  ·intro y0 y1 y2 y3
   unfold impl_PartsOf.l1
   repeat' first
   | (with_reducible exact ih0 _ _)
   | (with_reducible exact ih1 _ _ _ _)
   | (with_reducible exact LeO.refl _)
   | (with_reducible exact LeO.none _)
   | (with_reducible refine LeO.ite ?_ ?_)
   | (with_reducible refine LeO.bind ?_ (fun _ => ?_))
   | exact ih0 _ _
   | exact ih1 _ _ _ _
   | exact LeO.none _
   | refine LeO.ite ?_ ?_
   | refine LeO.bind ?_ (fun _ => ?_)
theorem impl_PartsOf.mono : ∀ a0 k, LeO (impl_PartsOf.f k a0) (impl_PartsOf.f (k + 1) a0) := by
 intro a0 k
 obtain ⟨ih0, ih1⟩ := impl_PartsOf.mono_l k
 unfold impl_PartsOf.f
 repeat' first
  | (with_reducible exact ih0 _ _)
  | (with_reducible exact ih1 _ _ _ _)
  | (with_reducible exact LeO.refl _)
  | (with_reducible exact LeO.none _)
  | (with_reducible refine LeO.ite ?_ ?_)
  | (with_reducible refine LeO.bind ?_ (fun _ => ?_))
  | exact ih0 _ _
  | exact ih1 _ _ _ _
  | exact LeO.none _
  | refine LeO.ite ?_ ?_
  | refine LeO.bind ?_ (fun _ => ?_)
set_option maxHeartbeats 8000000 in
set_option maxRecDepth 100000 in
theorem impl_PartsOf.calls (k : Nat) (a0 : ByteArray) (r1 : List ByteArray) (r2 : Bool) (w : World) (h : impl_PartsOf.f k a0 = some (r1, r2)) (htab : Cx.Ok w) :
 Calls Tryz.prog 21 #[.string a0] w fun e w' => ∃ v0_ : Value, e = .returned (.tuple #[v0_, .bool r2]) ∧ Kd.R Kd.string 9 w' w.heap.size (fun _ => True) v0_ r1 ∧ Below w.heap.size w w' := by
 have HTAB := aM htab
 clear htab
 have HB := aM (Below.refl w.heap.size w)
 have H : (if (a0.size : Int) > 600 then (some (([] : List ByteArray), false)) else (impl_PartsOf.l0 k a0 0)) = some (r1, r2) := h
 clear h
 by_cases c2 : (a0.size : Int) > 600
 ·rw [if_pos c2] at H
  have c2b0 : decide (600 < (a0.size : Int)) = true := decide_eq_true c2
  have c2b1 : decide (600 < a0.size) = true := decide_eq_true (by omega)
  clear c2
  simp only [Option.some.injEq, Prod.mk.injEq] at H
  obtain ⟨rfl, rfl⟩ := H
  go_enter Tryz.func21, Tryz.ntmps21
  go_wp2
  go_ret2
  exact ⟨_, by first | rfl | (simp [errW_none, errW_some] <;> rfl) | (simp [*, errW_none, errW_some] <;> rfl), by first | exact Kd.R_nil _ _ _ _ _ | exact Kd.N_nil _ _ _ _ _ | exact Kd.V_nil _ _ _ _ _ | exact Kd.Q_nil _ _ _ _ _ | exact Kd.S_nil _ _ _ _ _, uL HB⟩
 ·rw [if_neg c2] at H
  have c2b0 : decide (600 < (a0.size : Int)) = false := decide_eq_false c2
  have c2b1 : decide (600 < a0.size) = false := decide_eq_false (by omega)
  clear c2
  have H' := aM H
  clear H
  go_enter Tryz.func21, Tryz.ntmps21
  go_wp2
  go_loopg [4] k (fun kq v4 w' => ∃ (x4_1 : Int), v4 = .int .i64 x4_1 ∧ Aside0 (impl_PartsOf.l0 kq a0 x4_1 = some (r1, r2)) ∧ Aside0 (kq ≤ k) ∧ Aside0 (Below w.heap.size w w'))
  case atStart => exact ⟨(0), (by first | rfl | (simp; done) | (simp [*]; done)), H', ⟨Nat.le_refl _⟩, ⟨uL HB⟩⟩
  case round =>
   clear H'
   try clear c2; try clear c2b0; try clear c2b1; try clear p2
   obtain ⟨x4_1, rfl, HA, HK1, HB⟩ := hrel
   cases gk with
   | zero => exact absurd HA.out (by simp [impl_PartsOf.l0])
   | succ k1 =>
    have H := HA.out
    clear HA
    simp only [impl_PartsOf.l0] at H
    by_cases c3 : x4_1 < (a0.size : Int)
    ·rw [if_pos c3] at H
     have c3b0 : decide (x4_1 < (a0.size : Int)) = true := decide_eq_true c3
     clear c3
     by_cases c4 : 0 ≤ x4_1
     ·rw [if_pos c4] at H
      have c4b0 : decide (0 ≤ x4_1) = true := decide_eq_true c4
      clear c4
      by_cases c6 : (bt a0 x4_1) < 32
      ·rw [if_pos c6] at H
       have c6b0 : decide ((bt a0 x4_1) < 32) = true := decide_eq_true c6
       clear c6
       simp only [Option.some.injEq, Prod.mk.injEq] at H
       obtain ⟨rfl, rfl⟩ := H
       have p5 : 0 ≤ (x4_1 : Int) := of_decide_eq_true (by first | (with_reducible assumption) | assumption)
       have q5 : x4_1 < (a0.size : Int) := of_decide_eq_true (by first | (with_reducible assumption) | assumption)
       have hx5 := bt_at a0 x4_1
       replace p5 := eq_true p5; replace q5 := eq_true q5
       go_wp2
       go_ret2
       exact ⟨_, by first | rfl | (simp [errW_none, errW_some] <;> rfl) | (simp [*, errW_none, errW_some] <;> rfl), by first | exact Kd.R_nil _ _ _ _ _ | exact Kd.N_nil _ _ _ _ _ | exact Kd.V_nil _ _ _ _ _ | exact Kd.Q_nil _ _ _ _ _ | exact Kd.S_nil _ _ _ _ _, uL HB⟩
      ·rw [if_neg c6] at H
       have c6b0 : decide ((bt a0 x4_1) < 32) = false := decide_eq_false c6
       clear c6
       by_cases c8 : (bt a0 x4_1) > 126
       ·rw [if_pos c8] at H
        have c8b0 : decide (126 < (bt a0 x4_1)) = true := decide_eq_true c8
        clear c8
        simp only [Option.some.injEq, Prod.mk.injEq] at H
        obtain ⟨rfl, rfl⟩ := H
        have p5 : 0 ≤ (x4_1 : Int) := of_decide_eq_true (by first | (with_reducible assumption) | assumption)
        have q5 : x4_1 < (a0.size : Int) := of_decide_eq_true (by first | (with_reducible assumption) | assumption)
        have hx5 := bt_at a0 x4_1
        replace p5 := eq_true p5; replace q5 := eq_true q5
        have p7 : 0 ≤ (x4_1 : Int) := of_decide_eq_true (by first | (with_reducible assumption) | assumption)
        have q7 : x4_1 < (a0.size : Int) := of_decide_eq_true (by first | (with_reducible assumption) | assumption)
        have hx7 := bt_at a0 x4_1
        replace p7 := eq_true p7; replace q7 := eq_true q7
        go_wp2
        go_ret2
        exact ⟨_, by first | rfl | (simp [errW_none, errW_some] <;> rfl) | (simp [*, errW_none, errW_some] <;> rfl), by first | exact Kd.R_nil _ _ _ _ _ | exact Kd.N_nil _ _ _ _ _ | exact Kd.V_nil _ _ _ _ _ | exact Kd.Q_nil _ _ _ _ _ | exact Kd.S_nil _ _ _ _ _, uL HB⟩
       ·rw [if_neg c8] at H
        have c8b0 : decide (126 < (bt a0 x4_1)) = false := decide_eq_false c8
        clear c8
        have H' := aM H
        clear H
        have p5 : 0 ≤ (x4_1 : Int) := of_decide_eq_true (by first | (with_reducible assumption) | assumption)
        have q5 : x4_1 < (a0.size : Int) := of_decide_eq_true (by first | (with_reducible assumption) | assumption)
        have hx5 := bt_at a0 x4_1
        replace p5 := eq_true p5; replace q5 := eq_true q5
        have p7 : 0 ≤ (x4_1 : Int) := of_decide_eq_true (by first | (with_reducible assumption) | assumption)
        have q7 : x4_1 < (a0.size : Int) := of_decide_eq_true (by first | (with_reducible assumption) | assumption)
        have hx7 := bt_at a0 x4_1
        replace p7 := eq_true p7; replace q7 := eq_true q7
        go_wp2
        go_roundg k1
        case measure => have := HK1.out; omega
        case rel => exact ⟨(wrap64 (x4_1 + 1)), (by first | rfl | (simp; done) | (simp [*]; done)), H', ⟨by have := HK1.out; omega⟩, ⟨uL HB⟩⟩
     ·rw [if_neg c4] at H
      exact absurd H (by simp)
    ·rw [if_neg c3] at H
     have c3b0 : decide (x4_1 < (a0.size : Int)) = false := decide_eq_false c3
     clear c3
     replace H := Option.bind_eq_some_iff.mp H
     obtain ⟨t200, A90, H⟩ := H
     replace H : (impl_PartsOf.l1 k1 ([] : List ByteArray) t200 (t200.length : Int) 0) = some (r1, r2) := H
     have A9 := aM A90
     clear A90
     have H' := aM H
     clear H
     go_wp2_with (first | ((with_reducible refine gate_callee (f := 38) rfl ?_); refine gL (some 28) Tryz.func38 #[.string a0, .string (⟨#[32]⟩ : ByteArray)] ?_; (with_reducible refine (strings_Split.calls a0 (⟨#[32]⟩ : ByteArray) t200 _ A9.out (Cx.on HTAB.out (uL HB))).mono ?_); rintro e w10 ⟨v201, rfl, ho0, hb⟩; refine ⟨_, rfl, ?_⟩; have HO202 := aM (Kd.R_lower ho0 (below_size (uL HB))); replace HB := aM (below_step (uL HB) hb); try clear hb ho0; obtain ⟨Ao11, co11, eo11⟩ := Kd.R_slice HO202.out; subst eo11))
     go_loopg [5, 30] k1 (fun kq v5 v30 w' => ∃ (x5_2 : List ByteArray) (x30_2 : Int), v30 = .int .i64 x30_2 ∧ Aside0 (impl_PartsOf.l1 kq x5_2 t200 (t200.length : Int) x30_2 = some (r1, r2)) ∧ Aside0 (kq ≤ k1) ∧ Aside0 (Kd.R Kd.string 9 w' w.heap.size (fun k_ => some k_ ≠ ((.slice Ao11 t200.length co11) : Value).ownBlock) v5 x5_2) ∧ Aside0 (Kd.R Kd.string 9 w' w.heap.size (fun k_ => some k_ ≠ (v5 : Value).ownBlock) (.slice Ao11 t200.length co11) t200) ∧ Aside0 (Below w.heap.size w w'))
     case atStart => exact ⟨(([] : List ByteArray)), (0), (by first | rfl | (simp; done) | (simp [*]; done)), H', ⟨Nat.le_refl _⟩, ⟨by first | exact Kd.R_nil _ _ _ _ _ | exact Kd.N_nil _ _ _ _ _ | exact Kd.V_nil _ _ _ _ _ | exact Kd.Q_nil _ _ _ _ _ | exact Kd.S_nil _ _ _ _ _⟩, ⟨by (with_reducible repeat first | apply rA | apply rN | apply rD); exact Kd.R_mono HO202.out (fun _ hk => (by simp [Value.ownBlock]))⟩, ⟨uL HB⟩⟩
     case round =>
      clear H'
      try clear c2; try clear c2b0; try clear c2b1; try clear p2; try clear c3; try clear c3b0; try clear c4; try clear c4b0; try clear p5; try clear q5; try clear hx5; try clear c6; try clear c6b0; try clear p6; try clear p7; try clear q7; try clear hx7; try clear c8; try clear c8b0; try clear p2; try clear p5; try clear p7; try clear q5; try clear q7
      obtain ⟨x5_2, x30_2, rfl, HA, HK2, HO_5, HO_28, HB⟩ := hrel
      cases gk with
      | zero => exact absurd HA.out (by simp [impl_PartsOf.l1])
      | succ k2 =>
       have H := HA.out
       clear HA
       simp only [impl_PartsOf.l1] at H
       by_cases c12 : x30_2 < (t200.length : Int)
       ·rw [if_pos c12] at H
        have c12b0 : decide (x30_2 < (t200.length : Int)) = true := decide_eq_true c12
        clear c12
        by_cases c13 : 0 ≤ x30_2
        ·rw [if_pos c13] at H
         have c13b0 : decide (0 ≤ x30_2) = true := decide_eq_true c13
         clear c13
         by_cases c14 : x30_2 < (t200.length : Int)
         ·rw [if_pos c14] at H
          have c14b0 : decide (x30_2 < (t200.length : Int)) = true := decide_eq_true c14
          clear c14
          by_cases c15 : (rdOf ByteArray.empty t200 x30_2).toList = ([] : List UInt8)
          ·rw [if_pos c15] at H
           have c15b0 : ((rdOf ByteArray.empty t200 x30_2).toList == ([] : List UInt8)) = true := beq_iff_eq.mpr c15
           have c15b1 : ((rdOf ByteArray.empty t200 x30_2).toList != ([] : List UInt8)) = false := bne_eq_false_iff_eq.mpr c15
           clear c15
           have H' := aM H
           clear H
           have p203 : 0 ≤ (x30_2 : Int) := of_decide_eq_true (by first | (with_reducible assumption) | assumption)
           have q203 : x30_2 < (t200.length : Int) := of_decide_eq_true (by first | (with_reducible assumption) | assumption)
           obtain ⟨ad203, e203, hx203_0⟩ := Kd.at_string (Kd.R_reads' HO_28.out).2.2 x30_2 p203 q203
           cases e203
           replace p203 := eq_true p203; replace q203 := eq_true q203
           go_wp2
           go_roundg k2
           case measure => have := HK1.out; have := HK2.out; omega
           case rel => exact ⟨(x5_2), (wrap64 (x30_2 + 1)), (by first | rfl | (simp; done) | (simp [*]; done)), H', ⟨by have := HK1.out; have := HK2.out; omega⟩, ⟨by (with_reducible repeat first | apply rA | apply rN | apply rD); exact HO_5.out⟩, ⟨by (with_reducible repeat first | apply rA | apply rN | apply rD); exact HO_28.out⟩, ⟨uL HB⟩⟩
          ·rw [if_neg c15] at H
           have c15b0 : ((rdOf ByteArray.empty t200 x30_2).toList == ([] : List UInt8)) = false := beq_eq_false_iff_ne.mpr c15
           have c15b1 : ((rdOf ByteArray.empty t200 x30_2).toList != ([] : List UInt8)) = true := bne_iff_ne.mpr c15
           by_cases c16 : x5_2.length < 8796093022208
           ·rw [if_pos c16] at H
            have LMc16 := aM c16
            clear c16
            obtain ⟨y204, hy204⟩ : ∃ y_ : List ByteArray, y_ = (x5_2 ++ [rdOf ByteArray.empty t200 x30_2]) := ⟨_, rfl⟩
            replace H : (impl_PartsOf.l1 k2 y204 t200 (t200.length : Int) (wrap64 (x30_2 + 1))) = some (r1, r2) := by first | (rw [hy204]; with_reducible exact H) | (have H2_ := (Option.bind_some _ _).symm.trans H; rw [hy204]; with_reducible exact H2_) | (have H2_ := (Option.bind_some _ _).symm.trans H; with_reducible exact H2_) | with_reducible exact H | (rw [hy204]; exact H) | exact H
            have Ny204 := aM hy204
            clear hy204
            have H' := aM H
            clear H
            have p203 : 0 ≤ (x30_2 : Int) := of_decide_eq_true (by first | (with_reducible assumption) | assumption)
            have q203 : x30_2 < (t200.length : Int) := of_decide_eq_true (by first | (with_reducible assumption) | assumption)
            obtain ⟨ad203, e203, hx203_0⟩ := Kd.at_string (Kd.R_reads' HO_28.out).2.2 x30_2 p203 q203
            cases e203
            replace p203 := eq_true p203; replace q203 := eq_true q203
            go_wp2_with (first | ((with_reducible refine gate_builtin (b := .append) (xs := #[.tmp 36, .tmp 38]) rfl ?_); at_builtin; refine Kd.R_append Kd.string (w0 := w) w.heap.size rfl (.tmp 36) (.tmp 38) 40 9 (.string ⟨#[]⟩) 16 rfl Tryz.underlying40 info9 rfl (by decide) (by omega) u5 x5_2 (rdOf ByteArray.empty t200 x30_2) [.string (rdOf ByteArray.empty t200 x30_2)] (fun k_ => some k_ ≠ (.slice (some ad203) t200.length co11 : Value).ownBlock) (fun _ => False) rfl rfl ?aP (fun _ hk => hk.elim) ?aF ?aO ?aB ?aS ?aL ?_; (case aP => exact rfl); (case aB => exact (uL HB)); (case aF => exact (fun k_ hk => Kd.fresh' (Kd.R_lt (uR HO_28)) k_ hk)); (case aO => exact (uR HO_5)); (case aS => exact (below_size (uL HB))); (case aL => have := LMc16.out; omega); intro v205 w17 ho hb hg hat; rw [← Ny204.out] at ho; have HO206 := aM (ho); replace HO_28 := aM (Kd.R_after (ok := (fun _ => True)) (by (with_reducible repeat first | apply rA | apply rN | apply rD); exact Kd.R_mono HO_28.out (fun _ hk => ⟨trivial, hk⟩)) hg hat); replace HB := aM (hb); clear HO_5; clear ho hb hg hat))
            go_roundg k2
            case measure => have := HK1.out; have := HK2.out; omega
            case rel => exact ⟨(y204), (wrap64 (x30_2 + 1)), (by first | rfl | (simp; done) | (simp [*]; done)), H', ⟨by have := HK1.out; have := HK2.out; omega⟩, ⟨by (with_reducible repeat first | apply rA | apply rN | apply rD); exact HO206.out⟩, ⟨by (with_reducible repeat first | apply rA | apply rN | apply rD); exact Kd.R_mono HO_28.out (fun _ hk => hk.2)⟩, ⟨uL HB⟩⟩
           ·rw [if_neg c16] at H
            exact absurd H (by simp)
         ·rw [if_neg c14] at H
          exact absurd H (by simp)
        ·rw [if_neg c13] at H
         exact absurd H (by simp)
       ·rw [if_neg c12] at H
        have c12b0 : decide (x30_2 < (t200.length : Int)) = false := decide_eq_false c12
        clear c12
        by_cases c18 : (x5_2.length : Int) > 10
        ·rw [if_pos c18] at H
         have c18b0 : decide (10 < (x5_2.length : Int)) = true := decide_eq_true c18
         have c18b1 : decide (10 < x5_2.length) = true := decide_eq_true (by omega)
         clear c18
         simp only [Option.some.injEq, Prod.mk.injEq] at H
         obtain ⟨rfl, rfl⟩ := H
         obtain ⟨Ao19, co19, eo19⟩ := Kd.R_slice HO_5.out
         subst eo19
         go_wp2
         go_ret2
         exact ⟨_, by first | rfl | (simp [errW_none, errW_some] <;> rfl) | (simp [*, errW_none, errW_some] <;> rfl), by first | exact Kd.R_nil _ _ _ _ _ | exact Kd.N_nil _ _ _ _ _ | exact Kd.V_nil _ _ _ _ _ | exact Kd.Q_nil _ _ _ _ _ | exact Kd.S_nil _ _ _ _ _, uL HB⟩
        ·rw [if_neg c18] at H
         have c18b0 : decide (10 < (x5_2.length : Int)) = false := decide_eq_false c18
         have c18b1 : decide (10 < x5_2.length) = false := decide_eq_false (by omega)
         clear c18
         simp only [Option.some.injEq, Prod.mk.injEq] at H
         obtain ⟨rfl, rfl⟩ := H
         obtain ⟨Ao20, co20, eo20⟩ := Kd.R_slice HO_5.out
         subst eo20
         go_wp2
         go_ret2
         exact ⟨_, by first | rfl | (simp [errW_none, errW_some] <;> rfl) | (simp [*, errW_none, errW_some] <;> rfl), by (with_reducible repeat first | apply rA | apply rN | apply rD); exact Kd.R_mono HO_5.out (fun _ hk => trivial), uL HB⟩

end Go.Proofs.YthomiofokkkhgaaGreatDoor.QFnRules
