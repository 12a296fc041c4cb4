/- For every rule the program's CronText returns what the reference's returns and leaves the rule as it was, without a condition of its own. -/
import Derived.Test.YtlglildjehcogaaDoorQFnExactCronTextx4
namespace Go.Proofs.YtlglildjehcogaaDoor.Pure
open Go.RowKit Go.Proofs.YtlglildjehcogaaDoor.QFnExactCronText Go.Proofs.YtlglildjehcogaaDoorW.PrintWords Go.Proofs.YtlglildjehcogaaDoorW.PrintLast

set_option linter.unusedVariables false
set_option linter.unusedSimpArgs false
/-! small words on rounds -/
theorem wid {x : Int} (h0 : -9223372036854775808 ≤ x) (h1 : x ≤ 9223372036854775807) : wrap64 x = x := by
  unfold wrap64; omega
theorem wrap_to {x y : Int} (h : x = y) (h0 : -9223372036854775808 ≤ y) (h1 : y ≤ 9223372036854775807) : wrap64 x = y := by
  rw [h]; exact wid h0 h1
theorem ev_some {α : Type} {o : Option α} {r : α} (h : o = some r) : Ev (fun _ => o) r := ⟨0, fun _ _ => h⟩
theorem ev_succ {α : Type} {g : Nat → Option α} {r : α} (h : Ev (fun k => g (k + 1)) r) : Ev g r := Ev.step (fun _ => rfl) h
theorem ev_if {α : Type} {c : Prop} [Decidable c] {f g : Nat → Option α} {r : α} (h : c) (k : Ev f r) : Ev (fun n => if c then f n else g n) r := by
  simp only [if_pos h]; exact k
theorem ev_else {α : Type} {c : Prop} [Decidable c] {f g : Nat → Option α} {r : α} (h : ¬ c) (k : Ev g r) : Ev (fun n => if c then f n else g n) r := by
  simp only [if_neg h]; exact k
theorem ev_bind0 {α β : Type} {o : Option α} {f : Nat → α → Option β} {a : α} {r : β} (h : o = some a) (k : Ev (fun n => f n a) r) : Ev (fun n => o.bind (f n)) r := by
  subst h; exact k
theorem ev_bind {α β : Type} {g : Nat → Option α} {f : Nat → α → Option β} {a : α} {r : β} (h : Ev g a) (k : Ev (fun n => f n a) r) : Ev (fun n => (g n).bind (f n)) r := Ev.bind h k
theorem ev_eq {α : Type} {g : Nat → Option α} {a b : α} (h : Ev g a) (e : a = b) : Ev g b := e ▸ h
theorem tdivp {a b : Int} (h : 0 ≤ a) : Int.tdiv a b = a / b := Int.tdiv_eq_ediv_of_nonneg h
theorem tmodp {a b : Int} (h : 0 ≤ a) : Int.tmod a b = a % b := Int.tmod_eq_emod_of_nonneg h
theorem toList_iff (a b : ByteArray) : a.toList = b.toList ↔ a = b := by
  rw [ByteArray.toList_eq, ByteArray.toList_eq]
  exact ⟨fun h => ByteArray.ext (Array.toList_inj.mp h), fun h => by rw [h]⟩
theorem drop_getD {α : Type} (l : List α) (d : α) (i : Nat) (h : i < l.length) : l.drop i = l.getD i d :: l.drop (i + 1) := by
  rw [List.drop_eq_getElem_cons h, List.getD_eq_getElem?_getD, List.getElem?_eq_getElem h]
  rfl
theorem drop_end {α : Type} (l : List α) (i : Nat) (h : l.length ≤ i) : l.drop i = [] := List.drop_eq_nil_of_le h
theorem rd_nat (l : List Int) (i : Nat) : rd l (i : Int) = l.getD i 0 := rfl
theorem copy_step {α : Type} (l : List α) (d z : α) (i : Nat) (h : i < l.length) :
    (l.take i ++ List.replicate (l.length - i) z).set i (l.getD i d) = l.take (i + 1) ++ List.replicate (l.length - (i + 1)) z := by
  have h1 : (l.take i).length = i := by rw [List.length_take]; omega
  rw [List.set_append_right _ _ (by omega), h1, Nat.sub_self]
  have h2 : l.length - i = (l.length - (i + 1)) + 1 := by omega
  rw [h2, List.replicate_succ, List.set_cons_zero, List.take_succ_eq_append_getElem h, List.append_assoc]
  congr 1
  rw [List.getD_eq_getElem?_getD, List.getElem?_eq_getElem h]
  rfl
theorem copy_len {α : Type} (l : List α) (z : α) (i : Nat) (h : i ≤ l.length) : (l.take i ++ List.replicate (l.length - i) z).length = l.length := by
  rw [List.length_append, List.length_take, List.length_replicate]; omega
theorem toNat_nat (i : Nat) : ((i : Int)).toNat = i := rfl
theorem succ_i (i : Nat) (h : i ≤ 9223372036854775806) : wrap64 ((i : Int) + 1) = ((i + 1 : Nat) : Int) := wrap_to (by omega) (by omega) (by omega)
theorem pred_i (i : Nat) (h : 0 < i) (h' : i ≤ 9223372036854775806) : wrap64 ((i : Int) - 1) = ((i - 1 : Nat) : Int) := wrap_to (by omega) (by omega) (by omega)
theorem laws_eqIntS_l0 (a b : List Int) (hl : a.length ≤ 35184372088832) (hab : a.length = b.length) : ∀ (d i : Nat), i + d = a.length →
    Ev (fun k => laws_eqIntS.l0 k a b (i : Int)) (decide (a.drop i = b.drop i)) := by
  intro d
  induction d with
  | zero =>
    intro i hi
    refine ev_succ ?_
    simp only [laws_eqIntS.l0]
    refine ev_else (by omega) (ev_some ?_)
    rw [drop_end a i (by omega), drop_end b i (by omega)]
    simp
  | succ d ih =>
    intro i hi
    refine ev_succ ?_
    simp only [laws_eqIntS.l0]
    refine ev_if (by omega) (ev_if (by omega) (ev_if (by omega) ?_))
    rw [rd_nat, rd_nat, drop_getD a 0 i (by omega), drop_getD b 0 i (by omega), succ_i i (by omega)]
    by_cases h : a.getD i 0 = b.getD i 0
    · refine ev_if h (ev_eq (ih (i + 1) (by omega)) ?_)
      rw [h]; simp
    · refine ev_else h (ev_some ?_)
      have : ¬ (a.getD i 0 :: a.drop (i + 1) = b.getD i 0 :: b.drop (i + 1)) := fun e => h (List.cons.inj e).1
      simp only [decide_eq_false this]
theorem laws_eqIntS_f (a b : List Int) (hl : a.length ≤ 35184372088832) : Ev (fun k => laws_eqIntS.f k a b) (decide (a = b)) := by
  unfold laws_eqIntS.f
  by_cases h : a.length = b.length
  · refine ev_if (by omega) ?_
    have := laws_eqIntS_l0 a b hl h a.length 0 (by omega)
    simpa using this
  · refine ev_else (by omega) (ev_some ?_)
    have : ¬ a = b := fun e => h (by rw [e])
    simp [this]
theorem laws_toIntS_l0 (l : List Int) (hl : l.length ≤ 35184372088832) : ∀ (d i : Nat), i + d = l.length →
    Ev (fun k => laws_toIntS.l0 k l (l.take i ++ List.replicate (l.length - i) 0) (i : Int)) l := by
  intro d
  induction d with
  | zero =>
    intro i hi
    refine ev_succ ?_
    simp only [laws_toIntS.l0]
    refine ev_else (by omega) (ev_some ?_)
    have e : i = l.length := by omega
    subst e
    simp
  | succ d ih =>
    intro i hi
    refine ev_succ ?_
    simp only [laws_toIntS.l0]
    refine ev_if (by omega) (ev_if (by omega) (ev_if (by rw [copy_len _ _ _ (by omega)]; omega) ?_))
    rw [rd_nat, toNat_nat, copy_step l 0 0 i (by omega), succ_i i (by omega)]
    exact ih (i + 1) (by omega)
theorem laws_toIntS_f (l : List Int) (hl : l.length ≤ 35184372088832) : Ev (fun k => laws_toIntS.f k l) l := by
  unfold laws_toIntS.f
  refine ev_if (by omega) (ev_if (by rw [toNat_nat]; exact hl) ?_)
  have := laws_toIntS_l0 l hl l.length 0 (by omega)
  simpa using this
/-- the five lists of a rule, handed on and compared -/
theorem laws_szIntS_f (l : List Int) (left : Int) (h0 : 0 ≤ left) (h1 : left ≤ 1048576) (hl : l.length ≤ maxLen) : ∃ r, laws_szIntS.f l left = some r ∧ (r < 0 ∨ 0 ≤ r ∧ r + (l.length : Int) = left) := by
  unfold maxLen at hl
  unfold laws_szIntS.f
  rw [wid (x := left - (l.length : Int)) (by omega) (by omega)]
  by_cases h : left - (l.length : Int) < 0
  · rw [if_pos h]; exact ⟨-1, rfl, .inl (by omega)⟩
  · rw [if_neg h]; exact ⟨_, rfl, .inr ⟨by omega, by omega⟩⟩
theorem laws_szCron_f (l0 l1 l2 l3 l4 : List Int) (h0 : l0.length ≤ maxLen) (h1 : l1.length ≤ maxLen) (h2 : l2.length ≤ maxLen) (h3 : l3.length ≤ maxLen) (h4 : l4.length ≤ maxLen) :
    ∃ r, laws_szCron.f l0 l1 l2 l3 l4 1048576 = some r ∧ (r < 0 ∨ (l0.length ≤ 1048576 ∧ l1.length ≤ 1048576 ∧ l2.length ≤ 1048576 ∧ l3.length ≤ 1048576 ∧ l4.length ≤ 1048576)) := by
  unfold laws_szCron.f
  obtain ⟨r0, e0, c0⟩ := laws_szIntS_f l0 1048576 (by omega) (by omega) h0
  rw [e0, Option.bind_some]
  by_cases n0 : r0 < 0
  · rw [if_pos n0]; exact ⟨-1, rfl, .inl (by omega)⟩
  rw [if_neg n0]
  obtain ⟨r1, e1, c1⟩ := laws_szIntS_f l1 r0 (by omega) (by omega) h1
  rw [e1, Option.bind_some]
  by_cases n1 : r1 < 0
  · rw [if_pos n1]; exact ⟨-1, rfl, .inl (by omega)⟩
  rw [if_neg n1]
  obtain ⟨r2, e2, c2⟩ := laws_szIntS_f l2 r1 (by omega) (by omega) h2
  rw [e2, Option.bind_some]
  by_cases n2 : r2 < 0
  · rw [if_pos n2]; exact ⟨-1, rfl, .inl (by omega)⟩
  rw [if_neg n2]
  obtain ⟨r3, e3, c3⟩ := laws_szIntS_f l3 r2 (by omega) (by omega) h3
  rw [e3, Option.bind_some]
  by_cases n3 : r3 < 0
  · rw [if_pos n3]; exact ⟨-1, rfl, .inl (by omega)⟩
  rw [if_neg n3]
  obtain ⟨r4, e4, c4⟩ := laws_szIntS_f l4 r3 (by omega) (by omega) h4
  rw [e4, Option.bind_some]
  by_cases n4 : r4 < 0
  · rw [if_pos n4]; exact ⟨-1, rfl, .inl (by omega)⟩
  rw [if_neg n4]
  exact ⟨r4, rfl, .inr ⟨by omega, by omega, by omega, by omega, by omega⟩⟩
theorem laws_toCron_f (l0 l1 l2 l3 l4 : List Int) (h0 : l0.length ≤ 1048576) (h1 : l1.length ≤ 1048576) (h2 : l2.length ≤ 1048576) (h3 : l3.length ≤ 1048576) (h4 : l4.length ≤ 1048576) :
    Ev (fun k => laws_toCron.f k l0 l1 l2 l3 l4) (l0, l1, l2, l3, l4) := by
  unfold laws_toCron.f
  exact ev_bind (laws_toIntS_f l0 (by omega)) (ev_bind (laws_toIntS_f l1 (by omega)) (ev_bind (laws_toIntS_f l2 (by omega)) (ev_bind (laws_toIntS_f l3 (by omega)) (ev_bind (laws_toIntS_f l4 (by omega)) (ev_some rfl)))))
theorem laws_eqCron_f (l0 l1 l2 l3 l4 : List Int) (h0 : l0.length ≤ 1048576) (h1 : l1.length ≤ 1048576) (h2 : l2.length ≤ 1048576) (h3 : l3.length ≤ 1048576) (h4 : l4.length ≤ 1048576) :
    Ev (fun k => laws_eqCron.f k l0 l1 l2 l3 l4 l0 l1 l2 l3 l4) true := by
  unfold laws_eqCron.f
  have e : ∀ l : List Int, l.length ≤ 1048576 → Ev (fun k => laws_eqIntS.f k l l) true := fun l hl => by
    have := laws_eqIntS_f l l (by omega)
    rwa [decide_eq_true rfl] at this
  exact ev_bind (e l0 h0) (ev_if rfl (ev_bind (e l1 h1) (ev_if rfl (ev_bind (e l2 h2) (ev_if rfl (ev_bind (e l3 h3) (ev_if rfl (ev_bind (e l4 h4) (ev_if rfl (ev_some rfl))))))))))
def riseL (a b : Int) : Option Int → List Int → Bool
  | _, [] => true
  | p, x :: xs => decide (a ≤ x ∧ x ≤ b) && ((match p with | none => true | some y => decide (y < x)) && riseL a b (some x) xs)
def prevAt (l : List Int) (i : Nat) : Option Int := if i = 0 then none else some (l.getD (i - 1) 0)
theorem riseL_at (a b : Int) (l : List Int) (i : Nat) (h : i < l.length) :
    riseL a b (prevAt l i) (l.drop i) = (decide (a ≤ l.getD i 0 ∧ l.getD i 0 ≤ b) && (if i = 0 then true else decide (l.getD (i - 1) 0 < l.getD i 0)) && riseL a b (prevAt l (i + 1)) (l.drop (i + 1))) := by
  rw [drop_getD l 0 i h]
  have e : prevAt l (i + 1) = some (l.getD i 0) := by simp [prevAt]
  rw [e]
  simp only [riseL, prevAt]
  by_cases h0 : i = 0
  · simp [h0]
  · simp [h0, Bool.and_assoc]
def confOkB (l : List Int) : Bool := decide (1 ≤ l.length) && riseL 1 4 none l
theorem spec_l01In_f (x a b : Int) : spec_l01In.f x a b = some (decide (a ≤ x ∧ x ≤ b)) := by
  unfold spec_l01In.f
  by_cases h1 : a ≤ x <;> by_cases h2 : x ≤ b <;> simp [h1, h2]
def cronFld (a b : Int) (l : List Int) : Bool := decide (1 ≤ l.length) && riseL a b none l
def cronB (l0 l1 l2 l3 l4 : List Int) : Bool := cronFld 0 59 l0 && (cronFld 0 23 l1 && (cronFld 1 31 l2 && (cronFld 1 12 l3 && cronFld 0 6 l4)))
theorem impl_rise_eq (a b : Int) : ∀ (l : List Int) (p : Option Int), impl_CronOk.rise a b p l = riseL a b p l
  | [], p => by cases p <;> rfl
  | x :: xs, p => by
    cases p with
    | none => show (_ && (true && _)) = (_ && (true && _)); rw [impl_rise_eq a b xs (some x)]
    | some y => show (_ && (decide (y < x) && _)) = (_ && (decide (y < x) && _)); rw [impl_rise_eq a b xs (some x)]
theorem impl_CronOk_f (l0 l1 l2 l3 l4 : List Int) : impl_CronOk.f l0 l1 l2 l3 l4 = some (cronB l0 l1 l2 l3 l4) := by
  unfold impl_CronOk.f cronB impl_CronOk.fld cronFld
  rw [impl_rise_eq, impl_rise_eq, impl_rise_eq, impl_rise_eq, impl_rise_eq]
theorem spec_l10List_l0 (l : List Int) (a b : Int) (hl : l.length ≤ 35184372088832) : ∀ (d i : Nat), i + d = l.length →
    Ev (fun k => spec_l10List.l0 k l a b (i : Int)) (riseL a b (prevAt l i) (l.drop i) && decide (1 ≤ l.length)) := by
  intro d
  induction d with
  | zero =>
    intro i hi
    refine ev_succ ?_
    simp only [spec_l10List.l0]
    refine ev_else (by omega) (ev_some ?_)
    rw [drop_end l i (by omega)]
    have e : decide ((l.length : Int) > 0) = decide (1 ≤ l.length) := by
      by_cases h : 1 ≤ l.length
      · rw [decide_eq_true h, decide_eq_true (by omega)]
      · rw [decide_eq_false h, decide_eq_false (by omega)]
    rw [e]
    cases prevAt l i <;> simp [riseL]
  | succ d ih =>
    intro i hi
    refine ev_succ ?_
    simp only [spec_l10List.l0]
    refine ev_if (by omega) (ev_if (by omega) (ev_bind0 (spec_l01In_f _ _ _) ?_))
    rw [riseL_at a b l i (by omega), rd_nat, succ_i i (by omega)]
    by_cases hr : a ≤ l.getD i 0 ∧ l.getD i 0 ≤ b
    · refine ev_if (by simp only [hr, and_self, decide_true]) ?_
      by_cases h0 : i = 0
      · refine ev_else (by omega) (ev_eq (ih (i + 1) (by omega)) ?_)
        subst h0
        simp only [hr, and_self, decide_true, if_true, Bool.true_and]
      · refine ev_if (by omega) ?_
        rw [pred_i i (by omega) (by omega), rd_nat]
        refine ev_if (by omega) (ev_if (by omega) ?_)
        by_cases hlt : l.getD (i - 1) 0 < l.getD i 0
        · refine ev_else (by omega) (ev_eq (ih (i + 1) (by omega)) ?_)
          simp only [hr, h0, hlt, and_self, decide_true, if_false, Bool.true_and]
        · refine ev_if (by omega) (ev_some ?_)
          simp only [hr, h0, hlt, and_self, decide_true, decide_false, if_false, Bool.and_false, Bool.false_and]
    · refine ev_else (by simp only [hr, decide_false]; simp) (ev_some ?_)
      simp only [hr, decide_false, Bool.false_and]
theorem spec_l10List_f (l : List Int) (a b : Int) (hl : l.length ≤ 35184372088832) : Ev (fun k => spec_l10List.f k l a b) (cronFld a b l) := by
  have := spec_l10List_l0 l a b hl l.length 0 (by omega)
  unfold cronFld
  rw [Bool.and_comm]
  simpa [spec_l10List.f, prevAt] using this
theorem spec_CronOk_f (l0 l1 l2 l3 l4 : List Int) (h0 : l0.length ≤ 1048576) (h1 : l1.length ≤ 1048576) (h2 : l2.length ≤ 1048576) (h3 : l3.length ≤ 1048576) (h4 : l4.length ≤ 1048576) : Ev (fun k => spec_CronOk.f k l0 l1 l2 l3 l4) (cronB l0 l1 l2 l3 l4) := by
  unfold spec_CronOk.f cronB
  refine ev_bind (spec_l10List_f l0 0 59 (by omega)) ?_
  by_cases b0 : cronFld 0 59 l0 = true
  case neg => exact ev_else b0 (ev_some (by simp [b0]))
  refine ev_if b0 (ev_bind (spec_l10List_f l1 0 23 (by omega)) ?_)
  by_cases b1 : cronFld 0 23 l1 = true
  case neg => exact ev_else b1 (ev_some (by simp [b1]))
  refine ev_if b1 (ev_bind (spec_l10List_f l2 1 31 (by omega)) ?_)
  by_cases b2 : cronFld 1 31 l2 = true
  case neg => exact ev_else b2 (ev_some (by simp [b2]))
  refine ev_if b2 (ev_bind (spec_l10List_f l3 1 12 (by omega)) ?_)
  by_cases b3 : cronFld 1 12 l3 = true
  case neg => exact ev_else b3 (ev_some (by simp [b3]))
  refine ev_if b3 (ev_bind (spec_l10List_f l4 0 6 (by omega)) (ev_some ?_))
  simp [b0, b1, b2, b3]
theorem str_cons (d : Nat) (h : d < 10) (s : List UInt8) : strOfNums [((48 + (d : Int))) % 256] ++ (⟨s.toArray⟩ : ByteArray) = ⟨(UInt8.ofNat (48 + d) :: s).toArray⟩ := by
  apply ByteArray.ext
  rw [ByteArray.data_append, ← Array.toList_inj]
  have e : ((48 + (d : Int)) % 256).toNat = 48 + d := by omega
  simp [strOfNums, e]
theorem dig_step (u : Nat) (h : u ≠ 0) : (if u = 0 then [] else Lib.decDigits u) = (if u / 10 = 0 then [] else Lib.decDigits (u / 10)) ++ [UInt8.ofNat (48 + u % 10)] := by
  rw [if_neg h]
  by_cases h10 : u < 10
  · rw [if_pos (by omega), Lib.decDigits_one h10, Nat.mod_eq_of_lt h10]; rfl
  · rw [if_neg (by omega)]
    conv => lhs; rw [Lib.decDigits, dif_neg h10]
theorem spec_Decimal_l0 (b : Bool) : ∀ (n u : Nat) (x : Int) (s : List UInt8), u < 10 ^ n → x.natAbs = u → -9223372036854775808 ≤ x → x ≤ 9223372036854775807 → s.length + n ≤ 1000 →
    Ev (fun k => spec_Decimal.l0 k x b ⟨s.toArray⟩) (if b = true then ⟨(45 :: ((if u = 0 then [] else Lib.decDigits u) ++ s)).toArray⟩ else ⟨((if u = 0 then [] else Lib.decDigits u) ++ s).toArray⟩) := by
  have fin : ∀ (s : List UInt8), s.length ≤ 1000 → Ev (fun k => spec_Decimal.l0 k 0 b ⟨s.toArray⟩) (if b = true then ⟨(45 :: s).toArray⟩ else ⟨s.toArray⟩) := by
    intro s hs
    refine ev_succ ?_
    simp only [spec_Decimal.l0]
    have hz : (⟨s.toArray⟩ : ByteArray).size = s.length := by simp [ByteArray.size]
    refine ev_if trivial ?_
    cases b with
    | true =>
      refine ev_if rfl (ev_if (by rw [hz]; omega) (ev_some (congrArg some ?_)))
      rw [if_pos rfl]
      apply ByteArray.ext
      rw [ByteArray.data_append, ← Array.toList_inj]
      simp
    | false => exact ev_else (by simp) (ev_some rfl)
  intro n
  induction n with
  | zero =>
    intro u x s hu hx _ _ hs
    have h0 : u = 0 := by simpa using hu
    subst h0
    obtain rfl : x = 0 := by omega
    simp only [if_pos, List.nil_append]
    exact fin s (by omega)
  | succ n ih =>
    intro u x s hu hx hx0 hx1 hs
    by_cases h0 : u = 0
    · subst h0
      obtain rfl : x = 0 := by omega
      simp only [if_pos, List.nil_append]
      exact fin s (by omega)
    · have hxne : x ≠ 0 := by omega
      have hq : (Int.tdiv x 10).natAbs = u / 10 := by rw [Int.natAbs_tdiv, hx]; rfl
      have hqr : -9223372036854775808 ≤ Int.tdiv x 10 ∧ Int.tdiv x 10 ≤ 9223372036854775807 := by omega
      have hw : wrap64 (Int.tdiv x 10) = Int.tdiv x 10 := wid hqr.1 hqr.2
      have hsz : ∀ z : Int, (strOfNums [z]).size = 1 := fun z => rfl
      have hz : (⟨s.toArray⟩ : ByteArray).size = s.length := by simp [ByteArray.size]
      have hm : (Int.tmod x 10).natAbs = u % 10 := by rw [Int.natAbs_tmod, hx]; rfl
      have step := ih (u / 10) (Int.tdiv x 10) (UInt8.ofNat (48 + u % 10) :: s) (by rw [Nat.pow_succ] at hu; omega) hq hqr.1 hqr.2 (by rw [List.length_cons]; omega)
      rw [dig_step u h0, List.append_assoc, List.singleton_append]
      refine ev_succ ?_
      simp only [spec_Decimal.l0]
      refine ev_else hxne ?_
      have fig : ∀ z : Int, z = ((u % 10 : Nat) : Int) → spec_l01Figure.f z = some ((48 + ((u % 10 : Nat) : Int)) % 256) := by
        intro z hz
        subst hz
        unfold spec_l01Figure.f
        rw [if_pos (by omega), wid (by omega) (by omega)]
      by_cases hneg : Int.tmod x 10 < 0
      · refine ev_if hneg (ev_bind0 (fig _ (by rw [wid (by omega) (by omega)]; omega)) (ev_bind0 rfl (ev_if (by rw [hsz, hz]; omega) ?_)))
        rw [hw, str_cons _ (Nat.mod_lt _ (by omega))]
        exact step
      · refine ev_else hneg (ev_bind0 (fig _ (by omega)) (ev_bind0 rfl (ev_if (by rw [hsz, hz]; omega) ?_)))
        rw [hw, str_cons _ (Nat.mod_lt _ (by omega))]
        exact step
theorem spec_Decimal_f (x : Int) (h0 : -9223372036854775808 ≤ x) (h1 : x ≤ 9223372036854775807) : Ev (fun k => spec_Decimal.f k x) ⟨(Lib.itoa x).toArray⟩ := by
  unfold spec_Decimal.f
  by_cases hz : x = 0
  · subst hz
    refine ev_if rfl (ev_some (congrArg some ?_))
    have : Lib.itoa 0 = [48] := by
      have := Lib.itoa_nonneg 0
      rw [Lib.decDigits_one (by omega)] at this
      exact this
    rw [this]
  · refine ev_else hz ?_
    have step := spec_Decimal_l0 (decide (x < 0)) 20 x.natAbs x [] (by omega) rfl h0 h1 (by simp)
    have hu : ¬ x.natAbs = 0 := by omega
    simp only [List.append_nil, if_neg hu] at step
    refine ev_eq step ?_
    unfold Lib.itoa
    by_cases hn : x < 0
    · rw [if_pos (decide_eq_true hn), if_pos hn]
    · rw [if_neg (by simpa using hn), if_neg hn]
      have : x.natAbs = x.toNat := by omega
      rw [this]
theorem riseL_bounds (a b : Int) : ∀ (l : List Int) (p : Option Int), riseL a b p l = true → ∀ x ∈ l, a ≤ x ∧ x ≤ b
  | [], _, _, x, hx => by cases hx
  | y :: ys, p, h, x, hx => by
    simp only [riseL, Bool.and_eq_true, decide_eq_true_eq] at h
    rcases List.mem_cons.1 hx with rfl | hx
    · exact h.1
    · exact riseL_bounds a b ys (some y) h.2.2 x hx
theorem riseL_len (a b : Int) : ∀ (l : List Int) (y : Int), y ≤ b → riseL a b (some y) l = true → (l.length : Int) ≤ b - y
  | [], y, hy, _ => by show ((0 : Nat) : Int) ≤ _; omega
  | x :: xs, y, hy, h => by
    simp only [riseL, Bool.and_eq_true, decide_eq_true_eq] at h
    have := riseL_len a b xs x h.1.2 h.2.2
    rw [List.length_cons]
    omega
theorem riseL_len0 (a b : Int) : ∀ (l : List Int), a ≤ b + 1 → riseL a b none l = true → (l.length : Int) ≤ b - a + 1
  | [], h0, _ => by show ((0 : Nat) : Int) ≤ _; omega
  | x :: xs, h0, h => by
    simp only [riseL, Bool.and_eq_true, decide_eq_true_eq] at h
    have := riseL_len a b xs x h.1.2 h.2.2
    rw [List.length_cons]
    omega
theorem fld_small (a b : Int) (l : List Int) (ha : 0 ≤ a) (hb : b < 100) (hab : a ≤ b) (h : cronFld a b l = true) : impl_CronText.small l = true := by
  unfold cronFld at h
  rw [Bool.and_eq_true] at h
  have h1 := riseL_bounds a b l none h.2
  have h2 := riseL_len0 a b l (by omega) h.2
  unfold impl_CronText.small
  simp only [Bool.and_eq_true, List.all_eq_true, decide_eq_true_eq]
  exact ⟨fun x hx => by have := h1 x hx; omega, by omega⟩
theorem join_cons2 (sep x y : List UInt8) (ys : List (List UInt8)) : Lib.join (x :: y :: ys) sep = x ++ (sep ++ Lib.join (y :: ys) sep) := by simp [Lib.join, List.intercalate]
theorem join_snoc (sep x : List UInt8) : ∀ (xs : List (List UInt8)), Lib.join (xs ++ [x]) sep = if xs = [] then x else Lib.join xs sep ++ (sep ++ x)
  | [] => by rw [if_pos rfl]; simp [Lib.join]
  | [y] => by
    rw [if_neg (by simp)]
    show Lib.join (y :: x :: []) sep = _
    rw [join_cons2]
    simp [Lib.join]
  | y :: z :: zs => by
    have ih := join_snoc sep x (z :: zs)
    rw [if_neg (by simp)] at ih ⊢
    show Lib.join (y :: z :: (zs ++ [x])) sep = _
    rw [join_cons2, join_cons2]
    have : Lib.join (z :: (zs ++ [x])) sep = Lib.join (z :: zs) sep ++ (sep ++ x) := ih
    rw [this]
    simp
def numsOf (l : List Int) : List (List UInt8) := l.map (fun x => Lib.decDigits x.toNat)
def jn (l : List Int) : ByteArray := ⟨(Lib.join (numsOf l) [44]).toArray⟩
theorem jn_eq (l : List Int) : impl_CronText.join ⟨#[44]⟩ (l.map impl_CronText.dec) = jn l := by
  unfold impl_CronText.join jn numsOf
  rw [List.map_map]
  rfl
theorem jn_size (l : List Int) (h : ∀ x ∈ l, 0 ≤ x ∧ x < 100) : (jn l).size ≤ l.length * 3 := by
  have h1 := impl_CronText.decs_le l h
  have h2 : (jn l).size = (Lib.join ((l.map impl_CronText.dec).map (·.data.toList)) [44]).length := by
    rw [← jn_eq]
    simp [impl_CronText.join, ByteArray.size]
  omega
theorem jn_step (l : List Int) (x : Int) : jn (l ++ [x]) = if l = [] then ⟨(Lib.decDigits x.toNat).toArray⟩ else (jn l ++ ⟨#[44]⟩) ++ ⟨(Lib.decDigits x.toNat).toArray⟩ := by
  unfold jn numsOf
  rw [List.map_append, List.map_singleton, join_snoc]
  by_cases h : l = []
  · subst h
    rw [if_pos rfl]
    rfl
  · rw [if_neg h, if_neg (by simpa using h)]
    apply ByteArray.ext
    apply Array.toList_inj.1
    simp
theorem spec_dec (x : Int) (h0 : 0 ≤ x) (h1 : x < 100) : Ev (fun k => spec_Decimal.f k x) ⟨(Lib.decDigits x.toNat).toArray⟩ := by
  have h := spec_Decimal_f x (by omega) (by omega)
  unfold Lib.itoa at h
  rw [if_neg (by omega)] at h
  exact h
theorem dec_size (x : Int) (h : x < 100) : (⟨(Lib.decDigits x.toNat).toArray⟩ : ByteArray).size ≤ 2 := by
  have := impl_CronText.dec_le x h
  simpa [impl_CronText.dec, ByteArray.size] using this
theorem spec_l10Show_l0 (l : List Int) (hl : l.length ≤ 1000) (hm : ∀ x ∈ l, 0 ≤ x ∧ x < 100) : ∀ (d i : Nat), i + d = l.length → Ev (fun k => spec_l10Show.l0 k l (jn (l.take i)) (i : Int)) (jn l) := by
  intro d
  induction d with
  | zero =>
    intro i hi
    refine ev_succ ?_
    simp only [spec_l10Show.l0]
    rw [List.take_of_length_le (by omega)]
    exact ev_else (by omega) (ev_some rfl)
  | succ d ih =>
    intro i hi
    have hlt : i < l.length := by omega
    have e : rd l (i : Int) = l[i] := by
      show l.getD i 0 = _
      rw [List.getD_eq_getElem?_getD, List.getElem?_eq_getElem hlt]
      rfl
    have hx := hm l[i] (List.getElem_mem hlt)
    have hs := jn_size (l.take i) (fun x hx => hm x (List.mem_of_mem_take hx))
    rw [List.length_take] at hs
    have hd := dec_size l[i] hx.2
    have hz : (⟨#[44]⟩ : ByteArray).size = 1 := rfl
    have next := ih (i + 1) (by omega)
    rw [List.take_succ_eq_append_getElem hlt, jn_step] at next
    refine ev_succ ?_
    simp only [spec_l10Show.l0]
    rw [e, succ_i i (by omega)]
    refine ev_if (by omega) ?_
    by_cases h0 : i = 0
    · subst h0
      rw [if_pos (by simp)] at next
      refine ev_else (by omega) (ev_if (by omega) (ev_bind (spec_dec _ hx.1 hx.2) ?_))
      have e0 : jn (l.take 0) = ⟨#[]⟩ := rfl
      rw [e0]
      have e1 : (⟨#[]⟩ : ByteArray) ++ (⟨(Lib.decDigits (l[0]).toNat).toArray⟩ : ByteArray) = ⟨(Lib.decDigits (l[0]).toNat).toArray⟩ := by
        apply ByteArray.ext
        apply Array.toList_inj.1
        simp
      have e2 : (⟨#[]⟩ : ByteArray).size = 0 := rfl
      refine ev_if (by rw [e2]; omega) ?_
      rw [e1]
      exact next
    · rw [if_neg (by
        intro hc
        have := congrArg List.length hc
        rw [List.length_take, List.length_nil] at this
        omega)] at next
      refine ev_if (by omega) (ev_if (by omega) (ev_if (by omega) (ev_bind (spec_dec _ hx.1 hx.2) (ev_if (by rw [ByteArray.size_append, hz]; omega) next))))
theorem spec_l10Show_f (l : List Int) (i : Nat) (hl : l.length ≤ 1000) (hm : ∀ x ∈ l, 0 ≤ x ∧ x < 100) (a : Int) (ha : a = (impl_CronText.size i : Int)) : Ev (fun k => spec_l10Show.f k l a) (impl_CronText.show i l) := by
  unfold spec_l10Show.f impl_CronText.show
  subst ha
  by_cases h : l.length = impl_CronText.size i
  · exact ev_eq (ev_if (by omega) (ev_some rfl)) (if_pos h).symm
  · exact ev_eq (ev_else (by omega) (spec_l10Show_l0 l hl hm l.length 0 (by omega))) (by rw [if_neg h, jn_eq])
theorem show_size (i : Nat) (l : List Int) (h : impl_CronText.small l = true) : (impl_CronText.show i l).size ≤ 3000 := by
  have h2 := impl_CronText.small_mem h
  have := impl_CronText.show_le i l h2.1 h2.2
  exact this
def cronTextV (l0 l1 l2 l3 l4 : List Int) : ByteArray × Bool := if cronB l0 l1 l2 l3 l4 = true then (impl_CronText.join ⟨#[32]⟩ [impl_CronText.show 0 l0, impl_CronText.show 1 l1, impl_CronText.show 2 l2, impl_CronText.show 3 l3, impl_CronText.show 4 l4], true) else (⟨#[]⟩, false)
theorem cron_small (l0 l1 l2 l3 l4 : List Int) (h : cronB l0 l1 l2 l3 l4 = true) : impl_CronText.small l0 = true ∧ impl_CronText.small l1 = true ∧ impl_CronText.small l2 = true ∧ impl_CronText.small l3 = true ∧ impl_CronText.small l4 = true := by
  unfold cronB at h
  simp only [Bool.and_eq_true] at h
  obtain ⟨a, b, c, d, e⟩ := h
  exact ⟨fld_small 0 59 l0 (by omega) (by omega) (by omega) a, fld_small 0 23 l1 (by omega) (by omega) (by omega) b, fld_small 1 31 l2 (by omega) (by omega) (by omega) c, fld_small 1 12 l3 (by omega) (by omega) (by omega) d, fld_small 0 6 l4 (by omega) (by omega) (by omega) e⟩
theorem impl_CronText_f (l0 l1 l2 l3 l4 : List Int) : impl_CronText.f l0 l1 l2 l3 l4 = some (cronTextV l0 l1 l2 l3 l4) := by
  unfold impl_CronText.f cronTextV
  rw [impl_CronOk_f, Option.bind_some]
  by_cases h : cronB l0 l1 l2 l3 l4 = true
  · rw [if_pos h, if_pos (cron_small l0 l1 l2 l3 l4 h), if_pos h]
    rfl
  · rw [if_neg h, if_neg h]
theorem join5 (a b c d e : ByteArray) : impl_CronText.join ⟨#[32]⟩ [a, b, c, d, e] = (((((((a ++ ⟨#[32]⟩) ++ b) ++ ⟨#[32]⟩) ++ c) ++ ⟨#[32]⟩) ++ d) ++ ⟨#[32]⟩) ++ e := by
  unfold impl_CronText.join
  apply ByteArray.ext
  apply Array.toList_inj.1
  simp [Lib.join, List.intercalate]
theorem spec_CronText_f (l0 l1 l2 l3 l4 : List Int) (n0 : l0.length ≤ 1048576) (n1 : l1.length ≤ 1048576) (n2 : l2.length ≤ 1048576) (n3 : l3.length ≤ 1048576) (n4 : l4.length ≤ 1048576) : Ev (fun k => spec_CronText.f k l0 l1 l2 l3 l4) (cronTextV l0 l1 l2 l3 l4) := by
  unfold spec_CronText.f
  refine ev_bind (spec_CronOk_f l0 l1 l2 l3 l4 n0 n1 n2 n3 n4) ?_
  by_cases h : cronB l0 l1 l2 l3 l4 = true
  case neg => exact ev_eq (ev_else h (ev_some rfl)) (if_neg h).symm
  obtain ⟨s0, s1, s2, s3, s4⟩ := cron_small l0 l1 l2 l3 l4 h
  have e0 := spec_l10Show_f l0 0 (impl_CronText.small_mem s0).2 (impl_CronText.small_mem s0).1 60 rfl
  have e1 := spec_l10Show_f l1 1 (impl_CronText.small_mem s1).2 (impl_CronText.small_mem s1).1 24 rfl
  have e2 := spec_l10Show_f l2 2 (impl_CronText.small_mem s2).2 (impl_CronText.small_mem s2).1 31 rfl
  have e3 := spec_l10Show_f l3 3 (impl_CronText.small_mem s3).2 (impl_CronText.small_mem s3).1 12 rfl
  have e4 := spec_l10Show_f l4 4 (impl_CronText.small_mem s4).2 (impl_CronText.small_mem s4).1 7 rfl
  have z0 := show_size 0 l0 s0
  have z1 := show_size 1 l1 s1
  have z2 := show_size 2 l2 s2
  have z3 := show_size 3 l3 s3
  have z4 := show_size 4 l4 s4
  have zz : (⟨#[32]⟩ : ByteArray).size = 1 := rfl
  refine ev_eq (b := cronTextV l0 l1 l2 l3 l4) (a := (impl_CronText.join ⟨#[32]⟩ [impl_CronText.show 0 l0, impl_CronText.show 1 l1, impl_CronText.show 2 l2, impl_CronText.show 3 l3, impl_CronText.show 4 l4], true)) ?_ (if_pos h).symm
  rw [join5]
  generalize impl_CronText.show 0 l0 = a at *
  generalize impl_CronText.show 1 l1 = b at *
  generalize impl_CronText.show 2 l2 = c at *
  generalize impl_CronText.show 3 l3 = d at *
  generalize impl_CronText.show 4 l4 = e at *
  refine ev_if h (ev_bind e0 (ev_if (by omega) (ev_bind e1 (ev_if (by simp only [ByteArray.size_append]; omega) (ev_if (by simp only [ByteArray.size_append]; omega) (ev_bind e2 (ev_if (by simp only [ByteArray.size_append]; omega) (ev_if (by simp only [ByteArray.size_append]; omega) (ev_bind e3 (ev_if (by simp only [ByteArray.size_append]; omega) (ev_if (by simp only [ByteArray.size_append]; omega) (ev_bind e4 (ev_if (by simp only [ByteArray.size_append]; omega) (ev_some rfl))))))))))))))
theorem FnExactCronText (l0 l1 l2 l3 l4 : List Int) (h0 : l0.length ≤ maxLen ∧ ∀ x ∈ l0, (Lit.int .i64 x).wf = true) (h1 : l1.length ≤ maxLen ∧ ∀ x ∈ l1, (Lit.int .i64 x).wf = true) (h2 : l2.length ≤ maxLen ∧ ∀ x ∈ l2, (Lit.int .i64 x).wf = true) (h3 : l3.length ≤ maxLen ∧ ∀ x ∈ l3, (Lit.int .i64 x).wf = true) (h4 : l4.length ≤ maxLen ∧ ∀ x ∈ l4, (Lit.int .i64 x).wf = true) : ∃ k, laws_FnExactCronText.f k l0 l1 l2 l3 l4 = some true := by
  refine Ev.rounds ?_
  unfold laws_FnExactCronText.f
  obtain ⟨r, hr, hc⟩ := laws_szCron_f l0 l1 l2 l3 l4 h0.1 h1.1 h2.1 h3.1 h4.1
  refine ev_bind0 hr ?_
  by_cases hneg : r < 0
  · exact ev_if hneg (ev_some rfl)
  refine ev_else hneg ?_
  obtain ⟨n0, n1, n2, n3, n4⟩ := hc.resolve_left hneg
  have tt := laws_toCron_f l0 l1 l2 l3 l4 n0 n1 n2 n3 n4
  exact ev_bind tt (ev_bind (spec_CronText_f l0 l1 l2 l3 l4 n0 n1 n2 n3 n4) (ev_bind tt (ev_bind0 (impl_CronText_f l0 l1 l2 l3 l4) (ev_if rfl (ev_else (by simp) (ev_bind tt (ev_bind (laws_eqCron_f l0 l1 l2 l3 l4 n0 n1 n2 n3 n4) (ev_if rfl (ev_some rfl)))))))))

end Go.Proofs.YtlglildjehcogaaDoor.Pure
