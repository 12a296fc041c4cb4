/- For every rule the program's CronOk returns what the reference's returns and leaves the rule as it was, without a condition of its own. -/
import Derived.Test.YtlglildjehcogaaQFnExactCronOkx3
namespace Go.Proofs.Ytlglildjehcogaa.Pure
open Go.RowKit Go.Proofs.Ytlglildjehcogaa.QFnExactCronOk Go.Proofs.YtlglildjehcogaaW.PrintWords Go.Proofs.YtlglildjehcogaaW.PrintLast

set_option linter.unusedVariables false
set_option linter.unusedSimpArgs false
/-! small words on rounds -/
theorem wid {x : Int} (h0 : -9223372036854775808 ≤ x) (h1 : x ≤ 9223372036854775807) : wrap64 x = x := by
  unfold wrap64; omega
theorem wrap_to {x y : Int} (h : x = y) (h0 : -9223372036854775808 ≤ y) (h1 : y ≤ 9223372036854775807) : wrap64 x = y := by
  rw [h]; exact wid h0 h1
theorem ev_some {α : Type} {o : Option α} {r : α} (h : o = some r) : Ev (fun _ => o) r := ⟨0, fun _ _ => h⟩
theorem ev_succ {α : Type} {g : Nat → Option α} {r : α} (h : Ev (fun k => g (k + 1)) r) : Ev g r := Ev.step (fun _ => rfl) h
theorem ev_if {α : Type} {c : Prop} [Decidable c] {f g : Nat → Option α} {r : α} (h : c) (k : Ev f r) : Ev (fun n => if c then f n else g n) r := by
  simp only [if_pos h]; exact k
theorem ev_else {α : Type} {c : Prop} [Decidable c] {f g : Nat → Option α} {r : α} (h : ¬ c) (k : Ev g r) : Ev (fun n => if c then f n else g n) r := by
  simp only [if_neg h]; exact k
theorem ev_bind0 {α β : Type} {o : Option α} {f : Nat → α → Option β} {a : α} {r : β} (h : o = some a) (k : Ev (fun n => f n a) r) : Ev (fun n => o.bind (f n)) r := by
  subst h; exact k
theorem ev_bind {α β : Type} {g : Nat → Option α} {f : Nat → α → Option β} {a : α} {r : β} (h : Ev g a) (k : Ev (fun n => f n a) r) : Ev (fun n => (g n).bind (f n)) r := Ev.bind h k
theorem ev_eq {α : Type} {g : Nat → Option α} {a b : α} (h : Ev g a) (e : a = b) : Ev g b := e ▸ h
theorem tdivp {a b : Int} (h : 0 ≤ a) : Int.tdiv a b = a / b := Int.tdiv_eq_ediv_of_nonneg h
theorem tmodp {a b : Int} (h : 0 ≤ a) : Int.tmod a b = a % b := Int.tmod_eq_emod_of_nonneg h
theorem toList_iff (a b : ByteArray) : a.toList = b.toList ↔ a = b := by
  rw [ByteArray.toList_eq, ByteArray.toList_eq]
  exact ⟨fun h => ByteArray.ext (Array.toList_inj.mp h), fun h => by rw [h]⟩
theorem drop_getD {α : Type} (l : List α) (d : α) (i : Nat) (h : i < l.length) : l.drop i = l.getD i d :: l.drop (i + 1) := by
  rw [List.drop_eq_getElem_cons h, List.getD_eq_getElem?_getD, List.getElem?_eq_getElem h]
  rfl
theorem drop_end {α : Type} (l : List α) (i : Nat) (h : l.length ≤ i) : l.drop i = [] := List.drop_eq_nil_of_le h
theorem rd_nat (l : List Int) (i : Nat) : rd l (i : Int) = l.getD i 0 := rfl
theorem copy_step {α : Type} (l : List α) (d z : α) (i : Nat) (h : i < l.length) :
    (l.take i ++ List.replicate (l.length - i) z).set i (l.getD i d) = l.take (i + 1) ++ List.replicate (l.length - (i + 1)) z := by
  have h1 : (l.take i).length = i := by rw [List.length_take]; omega
  rw [List.set_append_right _ _ (by omega), h1, Nat.sub_self]
  have h2 : l.length - i = (l.length - (i + 1)) + 1 := by omega
  rw [h2, List.replicate_succ, List.set_cons_zero, List.take_succ_eq_append_getElem h, List.append_assoc]
  congr 1
  rw [List.getD_eq_getElem?_getD, List.getElem?_eq_getElem h]
  rfl
theorem copy_len {α : Type} (l : List α) (z : α) (i : Nat) (h : i ≤ l.length) : (l.take i ++ List.replicate (l.length - i) z).length = l.length := by
  rw [List.length_append, List.length_take, List.length_replicate]; omega
theorem toNat_nat (i : Nat) : ((i : Int)).toNat = i := rfl
theorem succ_i (i : Nat) (h : i ≤ 9223372036854775806) : wrap64 ((i : Int) + 1) = ((i + 1 : Nat) : Int) := wrap_to (by omega) (by omega) (by omega)
theorem pred_i (i : Nat) (h : 0 < i) (h' : i ≤ 9223372036854775806) : wrap64 ((i : Int) - 1) = ((i - 1 : Nat) : Int) := wrap_to (by omega) (by omega) (by omega)
theorem laws_eqIntS_l0 (a b : List Int) (hl : a.length ≤ 35184372088832) (hab : a.length = b.length) : ∀ (d i : Nat), i + d = a.length →
    Ev (fun k => laws_eqIntS.l0 k a b (i : Int)) (decide (a.drop i = b.drop i)) := by
  intro d
  induction d with
  | zero =>
    intro i hi
    refine ev_succ ?_
    simp only [laws_eqIntS.l0]
    refine ev_else (by omega) (ev_some ?_)
    rw [drop_end a i (by omega), drop_end b i (by omega)]
    simp
  | succ d ih =>
    intro i hi
    refine ev_succ ?_
    simp only [laws_eqIntS.l0]
    refine ev_if (by omega) (ev_if (by omega) (ev_if (by omega) ?_))
    rw [rd_nat, rd_nat, drop_getD a 0 i (by omega), drop_getD b 0 i (by omega), succ_i i (by omega)]
    by_cases h : a.getD i 0 = b.getD i 0
    · refine ev_if h (ev_eq (ih (i + 1) (by omega)) ?_)
      rw [h]; simp
    · refine ev_else h (ev_some ?_)
      have : ¬ (a.getD i 0 :: a.drop (i + 1) = b.getD i 0 :: b.drop (i + 1)) := fun e => h (List.cons.inj e).1
      simp only [decide_eq_false this]
theorem laws_eqIntS_f (a b : List Int) (hl : a.length ≤ 35184372088832) : Ev (fun k => laws_eqIntS.f k a b) (decide (a = b)) := by
  unfold laws_eqIntS.f
  by_cases h : a.length = b.length
  · refine ev_if (by omega) ?_
    have := laws_eqIntS_l0 a b hl h a.length 0 (by omega)
    simpa using this
  · refine ev_else (by omega) (ev_some ?_)
    have : ¬ a = b := fun e => h (by rw [e])
    simp [this]
theorem laws_toIntS_l0 (l : List Int) (hl : l.length ≤ 35184372088832) : ∀ (d i : Nat), i + d = l.length →
    Ev (fun k => laws_toIntS.l0 k l (l.take i ++ List.replicate (l.length - i) 0) (i : Int)) l := by
  intro d
  induction d with
  | zero =>
    intro i hi
    refine ev_succ ?_
    simp only [laws_toIntS.l0]
    refine ev_else (by omega) (ev_some ?_)
    have e : i = l.length := by omega
    subst e
    simp
  | succ d ih =>
    intro i hi
    refine ev_succ ?_
    simp only [laws_toIntS.l0]
    refine ev_if (by omega) (ev_if (by omega) (ev_if (by rw [copy_len _ _ _ (by omega)]; omega) ?_))
    rw [rd_nat, toNat_nat, copy_step l 0 0 i (by omega), succ_i i (by omega)]
    exact ih (i + 1) (by omega)
theorem laws_toIntS_f (l : List Int) (hl : l.length ≤ 35184372088832) : Ev (fun k => laws_toIntS.f k l) l := by
  unfold laws_toIntS.f
  refine ev_if (by omega) (ev_if (by rw [toNat_nat]; exact hl) ?_)
  have := laws_toIntS_l0 l hl l.length 0 (by omega)
  simpa using this
/-- the five lists of a rule, handed on and compared -/
theorem laws_szIntS_f (l : List Int) (left : Int) (h0 : 0 ≤ left) (h1 : left ≤ 1048576) (hl : l.length ≤ maxLen) : ∃ r, laws_szIntS.f l left = some r ∧ (r < 0 ∨ 0 ≤ r ∧ r + (l.length : Int) = left) := by
  unfold maxLen at hl
  unfold laws_szIntS.f
  rw [wid (x := left - (l.length : Int)) (by omega) (by omega)]
  by_cases h : left - (l.length : Int) < 0
  · rw [if_pos h]; exact ⟨-1, rfl, .inl (by omega)⟩
  · rw [if_neg h]; exact ⟨_, rfl, .inr ⟨by omega, by omega⟩⟩
theorem laws_szCron_f (l0 l1 l2 l3 l4 : List Int) (h0 : l0.length ≤ maxLen) (h1 : l1.length ≤ maxLen) (h2 : l2.length ≤ maxLen) (h3 : l3.length ≤ maxLen) (h4 : l4.length ≤ maxLen) :
    ∃ r, laws_szCron.f l0 l1 l2 l3 l4 1048576 = some r ∧ (r < 0 ∨ (l0.length ≤ 1048576 ∧ l1.length ≤ 1048576 ∧ l2.length ≤ 1048576 ∧ l3.length ≤ 1048576 ∧ l4.length ≤ 1048576)) := by
  unfold laws_szCron.f
  obtain ⟨r0, e0, c0⟩ := laws_szIntS_f l0 1048576 (by omega) (by omega) h0
  rw [e0, Option.bind_some]
  by_cases n0 : r0 < 0
  · rw [if_pos n0]; exact ⟨-1, rfl, .inl (by omega)⟩
  rw [if_neg n0]
  obtain ⟨r1, e1, c1⟩ := laws_szIntS_f l1 r0 (by omega) (by omega) h1
  rw [e1, Option.bind_some]
  by_cases n1 : r1 < 0
  · rw [if_pos n1]; exact ⟨-1, rfl, .inl (by omega)⟩
  rw [if_neg n1]
  obtain ⟨r2, e2, c2⟩ := laws_szIntS_f l2 r1 (by omega) (by omega) h2
  rw [e2, Option.bind_some]
  by_cases n2 : r2 < 0
  · rw [if_pos n2]; exact ⟨-1, rfl, .inl (by omega)⟩
  rw [if_neg n2]
  obtain ⟨r3, e3, c3⟩ := laws_szIntS_f l3 r2 (by omega) (by omega) h3
  rw [e3, Option.bind_some]
  by_cases n3 : r3 < 0
  · rw [if_pos n3]; exact ⟨-1, rfl, .inl (by omega)⟩
  rw [if_neg n3]
  obtain ⟨r4, e4, c4⟩ := laws_szIntS_f l4 r3 (by omega) (by omega) h4
  rw [e4, Option.bind_some]
  by_cases n4 : r4 < 0
  · rw [if_pos n4]; exact ⟨-1, rfl, .inl (by omega)⟩
  rw [if_neg n4]
  exact ⟨r4, rfl, .inr ⟨by omega, by omega, by omega, by omega, by omega⟩⟩
theorem laws_toCron_f (l0 l1 l2 l3 l4 : List Int) (h0 : l0.length ≤ 1048576) (h1 : l1.length ≤ 1048576) (h2 : l2.length ≤ 1048576) (h3 : l3.length ≤ 1048576) (h4 : l4.length ≤ 1048576) :
    Ev (fun k => laws_toCron.f k l0 l1 l2 l3 l4) (l0, l1, l2, l3, l4) := by
  unfold laws_toCron.f
  exact ev_bind (laws_toIntS_f l0 (by omega)) (ev_bind (laws_toIntS_f l1 (by omega)) (ev_bind (laws_toIntS_f l2 (by omega)) (ev_bind (laws_toIntS_f l3 (by omega)) (ev_bind (laws_toIntS_f l4 (by omega)) (ev_some rfl)))))
theorem laws_eqCron_f (l0 l1 l2 l3 l4 : List Int) (h0 : l0.length ≤ 1048576) (h1 : l1.length ≤ 1048576) (h2 : l2.length ≤ 1048576) (h3 : l3.length ≤ 1048576) (h4 : l4.length ≤ 1048576) :
    Ev (fun k => laws_eqCron.f k l0 l1 l2 l3 l4 l0 l1 l2 l3 l4) true := by
  unfold laws_eqCron.f
  have e : ∀ l : List Int, l.length ≤ 1048576 → Ev (fun k => laws_eqIntS.f k l l) true := fun l hl => by
    have := laws_eqIntS_f l l (by omega)
    rwa [decide_eq_true rfl] at this
  exact ev_bind (e l0 h0) (ev_if rfl (ev_bind (e l1 h1) (ev_if rfl (ev_bind (e l2 h2) (ev_if rfl (ev_bind (e l3 h3) (ev_if rfl (ev_bind (e l4 h4) (ev_if rfl (ev_some rfl))))))))))
def riseL (a b : Int) : Option Int → List Int → Bool
  | _, [] => true
  | p, x :: xs => decide (a ≤ x ∧ x ≤ b) && ((match p with | none => true | some y => decide (y < x)) && riseL a b (some x) xs)
def prevAt (l : List Int) (i : Nat) : Option Int := if i = 0 then none else some (l.getD (i - 1) 0)
theorem riseL_at (a b : Int) (l : List Int) (i : Nat) (h : i < l.length) :
    riseL a b (prevAt l i) (l.drop i) = (decide (a ≤ l.getD i 0 ∧ l.getD i 0 ≤ b) && (if i = 0 then true else decide (l.getD (i - 1) 0 < l.getD i 0)) && riseL a b (prevAt l (i + 1)) (l.drop (i + 1))) := by
  rw [drop_getD l 0 i h]
  have e : prevAt l (i + 1) = some (l.getD i 0) := by simp [prevAt]
  rw [e]
  simp only [riseL, prevAt]
  by_cases h0 : i = 0
  · simp [h0]
  · simp [h0, Bool.and_assoc]
def confOkB (l : List Int) : Bool := decide (1 ≤ l.length) && riseL 1 4 none l
theorem spec_l01In_f (x a b : Int) : spec_l01In.f x a b = some (decide (a ≤ x ∧ x ≤ b)) := by
  unfold spec_l01In.f
  by_cases h1 : a ≤ x <;> by_cases h2 : x ≤ b <;> simp [h1, h2]
def cronFld (a b : Int) (l : List Int) : Bool := decide (1 ≤ l.length) && riseL a b none l
def cronB (l0 l1 l2 l3 l4 : List Int) : Bool := cronFld 0 59 l0 && (cronFld 0 23 l1 && (cronFld 1 31 l2 && (cronFld 1 12 l3 && cronFld 0 6 l4)))
theorem impl_rise_eq (a b : Int) : ∀ (l : List Int) (p : Option Int), impl_CronOk.rise a b p l = riseL a b p l
  | [], p => by cases p <;> rfl
  | x :: xs, p => by
    cases p with
    | none => show (_ && (true && _)) = (_ && (true && _)); rw [impl_rise_eq a b xs (some x)]
    | some y => show (_ && (decide (y < x) && _)) = (_ && (decide (y < x) && _)); rw [impl_rise_eq a b xs (some x)]
theorem impl_CronOk_f (l0 l1 l2 l3 l4 : List Int) : impl_CronOk.f l0 l1 l2 l3 l4 = some (cronB l0 l1 l2 l3 l4) := by
  unfold impl_CronOk.f cronB impl_CronOk.fld cronFld
  rw [impl_rise_eq, impl_rise_eq, impl_rise_eq, impl_rise_eq, impl_rise_eq]
theorem spec_l10List_l0 (l : List Int) (a b : Int) (hl : l.length ≤ 35184372088832) : ∀ (d i : Nat), i + d = l.length →
    Ev (fun k => spec_l10List.l0 k l a b (i : Int)) (riseL a b (prevAt l i) (l.drop i) && decide (1 ≤ l.length)) := by
  intro d
  induction d with
  | zero =>
    intro i hi
    refine ev_succ ?_
    simp only [spec_l10List.l0]
    refine ev_else (by omega) (ev_some ?_)
    rw [drop_end l i (by omega)]
    have e : decide ((l.length : Int) > 0) = decide (1 ≤ l.length) := by
      by_cases h : 1 ≤ l.length
      · rw [decide_eq_true h, decide_eq_true (by omega)]
      · rw [decide_eq_false h, decide_eq_false (by omega)]
    rw [e]
    cases prevAt l i <;> simp [riseL]
  | succ d ih =>
    intro i hi
    refine ev_succ ?_
    simp only [spec_l10List.l0]
    refine ev_if (by omega) (ev_if (by omega) (ev_bind0 (spec_l01In_f _ _ _) ?_))
    rw [riseL_at a b l i (by omega), rd_nat, succ_i i (by omega)]
    by_cases hr : a ≤ l.getD i 0 ∧ l.getD i 0 ≤ b
    · refine ev_if (by simp only [hr, and_self, decide_true]) ?_
      by_cases h0 : i = 0
      · refine ev_else (by omega) (ev_eq (ih (i + 1) (by omega)) ?_)
        subst h0
        simp only [hr, and_self, decide_true, if_true, Bool.true_and]
      · refine ev_if (by omega) ?_
        rw [pred_i i (by omega) (by omega), rd_nat]
        refine ev_if (by omega) (ev_if (by omega) ?_)
        by_cases hlt : l.getD (i - 1) 0 < l.getD i 0
        · refine ev_else (by omega) (ev_eq (ih (i + 1) (by omega)) ?_)
          simp only [hr, h0, hlt, and_self, decide_true, if_false, Bool.true_and]
        · refine ev_if (by omega) (ev_some ?_)
          simp only [hr, h0, hlt, and_self, decide_true, decide_false, if_false, Bool.and_false, Bool.false_and]
    · refine ev_else (by simp only [hr, decide_false]; simp) (ev_some ?_)
      simp only [hr, decide_false, Bool.false_and]
theorem spec_l10List_f (l : List Int) (a b : Int) (hl : l.length ≤ 35184372088832) : Ev (fun k => spec_l10List.f k l a b) (cronFld a b l) := by
  have := spec_l10List_l0 l a b hl l.length 0 (by omega)
  unfold cronFld
  rw [Bool.and_comm]
  simpa [spec_l10List.f, prevAt] using this
theorem spec_CronOk_f (l0 l1 l2 l3 l4 : List Int) (h0 : l0.length ≤ 1048576) (h1 : l1.length ≤ 1048576) (h2 : l2.length ≤ 1048576) (h3 : l3.length ≤ 1048576) (h4 : l4.length ≤ 1048576) : Ev (fun k => spec_CronOk.f k l0 l1 l2 l3 l4) (cronB l0 l1 l2 l3 l4) := by
  unfold spec_CronOk.f cronB
  refine ev_bind (spec_l10List_f l0 0 59 (by omega)) ?_
  by_cases b0 : cronFld 0 59 l0 = true
  case neg => exact ev_else b0 (ev_some (by simp [b0]))
  refine ev_if b0 (ev_bind (spec_l10List_f l1 0 23 (by omega)) ?_)
  by_cases b1 : cronFld 0 23 l1 = true
  case neg => exact ev_else b1 (ev_some (by simp [b1]))
  refine ev_if b1 (ev_bind (spec_l10List_f l2 1 31 (by omega)) ?_)
  by_cases b2 : cronFld 1 31 l2 = true
  case neg => exact ev_else b2 (ev_some (by simp [b2]))
  refine ev_if b2 (ev_bind (spec_l10List_f l3 1 12 (by omega)) ?_)
  by_cases b3 : cronFld 1 12 l3 = true
  case neg => exact ev_else b3 (ev_some (by simp [b3]))
  refine ev_if b3 (ev_bind (spec_l10List_f l4 0 6 (by omega)) (ev_some ?_))
  simp [b0, b1, b2, b3]
theorem FnExactCronOk (l0 l1 l2 l3 l4 : List Int) (h0 : l0.length ≤ maxLen ∧ ∀ x ∈ l0, (Lit.int .i64 x).wf = true) (h1 : l1.length ≤ maxLen ∧ ∀ x ∈ l1, (Lit.int .i64 x).wf = true) (h2 : l2.length ≤ maxLen ∧ ∀ x ∈ l2, (Lit.int .i64 x).wf = true) (h3 : l3.length ≤ maxLen ∧ ∀ x ∈ l3, (Lit.int .i64 x).wf = true) (h4 : l4.length ≤ maxLen ∧ ∀ x ∈ l4, (Lit.int .i64 x).wf = true) : ∃ k, laws_FnExactCronOk.f k l0 l1 l2 l3 l4 = some true := by
  refine Ev.rounds ?_
  unfold laws_FnExactCronOk.f
  obtain ⟨r, hr, hc⟩ := laws_szCron_f l0 l1 l2 l3 l4 h0.1 h1.1 h2.1 h3.1 h4.1
  refine ev_bind0 hr ?_
  by_cases hneg : r < 0
  · exact ev_if hneg (ev_some rfl)
  refine ev_else hneg ?_
  obtain ⟨n0, n1, n2, n3, n4⟩ := hc.resolve_left hneg
  have tt := laws_toCron_f l0 l1 l2 l3 l4 n0 n1 n2 n3 n4
  exact ev_bind tt (ev_bind (spec_CronOk_f l0 l1 l2 l3 l4 n0 n1 n2 n3 n4) (ev_bind tt (ev_bind0 (impl_CronOk_f l0 l1 l2 l3 l4) (ev_else (by simp) (ev_bind tt (ev_bind (laws_eqCron_f l0 l1 l2 l3 l4 n0 n1 n2 n3 n4) (ev_if rfl (ev_some rfl))))))))

end Go.Proofs.Ytlglildjehcogaa.Pure
