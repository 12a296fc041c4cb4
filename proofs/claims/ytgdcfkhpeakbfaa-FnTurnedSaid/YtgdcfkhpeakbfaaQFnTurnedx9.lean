/- The walk of FnTurned: a drawn text, sealed, one byte turned. -/
import Derived.Test.YtgdcfkhpeakbfaaQFnTurnedx1
import Derived.Test.YtgdcfkhpeakbfaaQFnTurnedx2
import Derived.Deep.AppendLies
import Derived.Lib.ConvBytes
namespace Go.Proofs.Ytgdcfkhpeakbfaa.QFnTurned
open Go.RowKit Go.Proofs.YtgdcfkhpeakbfaaW.PrintWords Go.Proofs.YtgdcfkhpeakbfaaW.PrintLast Go.Proofs.YtgdcfkhpeakbfaaW.PrintMore
set_option linter.unusedVariables false
set_option linter.unusedSimpArgs false
theorem turned_big (A0 : Option Addr) (c0 : Nat) (l0 : List Int) (w : World) (hr0 : Kd.C (Kd.int .u8) w A0 l0.length l0) (hc0 : l0.length ≤ c0) (h : laws_big.f l0 = some true) :
    Calls Try.prog 13 #[.slice A0 l0.length c0] w fun e w' => e = .returned (.bool true) ∧ Below w.heap.size w w' := by
  have HR0 := aM hr0
  have HC0 := aM hc0
  have A2 := aM h
  have HB := aM (Below.refl w.heap.size w)
  clear hr0 hc0 h
  go_enter Try.func13, Try.ntmps13
  go_wp2_with (first | (go_at_call 41; refine (laws_big.calls _ _ l0 true _ HR0.out HC0.out A2.out).mono ?_; rintro e w' ⟨rfl, ⟨nd, rfl⟩⟩))
  go_ret
  exact ⟨rfl, by repeat (first | (with_reducible first | exact HB.out | apply lA | apply lN | apply lD) | exact HB.out)⟩
theorem row_form {w : World} {base : Nat} {v : Value} {p : List Int} (h : Kd.R (Kd.int .i64) 3 w base (fun _ => True) v p) (hp : p.length = 12) :
    ∃ g c, v = .slice (some ⟨g, 0, none⟩) 12 c ∧ g < w.heap.size ∧ w.cell? ⟨g, 0, none⟩ = some (.int .i64 (p.getD 0 0)) ∧ w.cell? ⟨g, 1, none⟩ = some (.int .i64 (p.getD 1 0)) := by
  obtain ⟨inner, ho⟩ := Kd.R_own h
  obtain ⟨g, c, rfl, _, hg⟩ := World.ownsRow.form ho (by omega)
  rw [hp] at h ⊢
  obtain ⟨_, _, hC⟩ := Kd.R_reads' h
  have hr := Kd.reads_of_C (enc := Value.int .i64) (d := (0 : Int)) (h1 := fun _ => rfl) hC
  obtain ⟨ad, e, hc⟩ := hr.2.2 (by omega)
  cases e
  exact ⟨g, c, rfl, hg, hc 0 (by omega), hc 1 (by omega)⟩
theorem bytes_event {P : Program} {ops : Array Oper} {o : Oper} {rest : List Oper} {a : Act} {Q : Exit → Act → World → Prop} {W : World} (t : ByteArray) (hsz : t.size ≤ 9223372036854775807) (hgd : o.guard = none)
    (hrun : (execOp a.eval o).run P W = .ok (.value (.slice (some ⟨W.heap.size, 0, none⟩) t.size (grownCap W t.size 0 5))) (Lib.bytesWorld W 5 t))
    (h : ∀ g c w1, g = W.heap.size → ReadsInt w1 .u8 (some ⟨g, 0, none⟩) t.size (bytesOf t) → Below W.heap.size W w1 → (∀ j, j < t.size → w1.frozen? ⟨g, j, none⟩ = false) → wpList P ops Q rest (a.put o.dst (.slice (some ⟨g, 0, none⟩) t.size c)) w1) : wpList P ops Q (o :: rest) a W := by
  refine Kd.event_run hgd hrun (h _ _ _ rfl (bytes_reads W 5 t hsz) (bytes_below (Below.refl _ _) (Nat.le_refl _) 5 t) (fun j hj => ?_))
  have hlt : j < (Lib.bytesCells W 5 t).size := by
    have : t.data.size = t.size := rfl
    simp [Lib.bytesCells]
    omega
  simp only [World.frozen?, Lib.bytesWorld_at_new]
  simp
  omega
theorem turned_reads {w : World} {g n i : Nat} {l : List Int} (h : ReadsInt w .u8 (some ⟨g, 0, none⟩) n l) (hi : i < n) (c : Int) : ReadsInt (w.setCell ⟨g, i, none⟩ (.int .u8 c)) .u8 (some ⟨g, 0, none⟩) n (l.set i c) := by
  refine ⟨by rw [List.length_set]; exact h.1, h.2.1, fun hn => ⟨⟨g, 0, none⟩, rfl, fun j hj => ?_⟩⟩
  obtain ⟨ad, e, hc⟩ := h.2.2 hn
  cases e
  have hl := h.1
  have ha : ∀ q, (⟨g, 0, none⟩ : Addr).add q = ⟨g, q, none⟩ := fun q => by cases q <;> simp [Addr.add]
  have hci := hc i hi
  have hcj := hc j hj
  rw [ha] at hci hcj ⊢
  by_cases e : i = j
  · subst e
    rw [World.cell?_setCell_same _ _ _ hci]
    simp [List.getD_eq_getElem?_getD, hl, hi]
  · rw [World.cell?_setCell_other _ _ _ _ (by intro h2; injection h2 with _ h3; exact e h3), hcj]
    simp [List.getD_eq_getElem?_getD, List.getElem?_set_ne e]
/-- the byte that is put in the place of another -/
def turnB (t : ByteArray) (i : Nat) (z : Int) : Int := Go.bits .xor .u8 (bt t (i : Int)) (wrap64 (1 + Int.tmod z 255) % 256)
theorem str_event {P : Program} {ops : Array Oper} {o : Oper} {rest : List Oper} {a : Act} {Q : Exit → Act → World → Prop} {W : World} (s : ByteArray) (hgd : o.guard = none)
    (hrun : (execOp a.eval o).run P W = .ok (.value (.string s)) W) (h : wpList P ops Q rest (a.put o.dst (.string s)) W) : wpList P ops Q (o :: rest) a W := Kd.event_run hgd hrun h
theorem tn1 {a b : Nat} (h : b = a + 4) (ha : a ≤ 20000) : wrap64 ((a : Int) + 4) = (b : Int) := by unfold wrap64; omega
theorem tn2 {a b : Nat} (h : b = a + 4) (ha : a ≤ 20000) : IntKind.i64.wrap ((a : Int) + 4) = (b : Int) := by rw [IntKind.wrap_i64]; omega
theorem tn5 {a b : Nat} (h : b = a + 4) : ((b : Int) == 0) = false := by simp only [beq_eq_false_iff_ne, ne_eq]; omega
theorem tn6 {b i : Nat} (h : i < b) : ((i : Int) < (b : Int)) = True := eq_true (by omega)
theorem tn7 (i : Nat) : (0 ≤ (i : Int)) = True := eq_true (by omega)
theorem tn9 {a : Nat} (h : a ≤ 20000) : ¬ 9223372036854775807 < a + 1 := by omega
theorem tn10 {a b : Nat} (h : b = a + 4) (ha : a ≤ 20000) : b ≤ 9223372036854775807 := by omega
set_option maxHeartbeats 8000000 in
set_option maxRecDepth 100000 in
theorem turned_walk (A0 : Option Addr) (c0 : Nat) (l0 : List Int) (w : World) (hr0 : Kd.C (Kd.int .u8) w A0 l0.length l0) (hc0 : l0.length ≤ c0) (hbg : laws_big.f l0 = some false)
    (k : Nat) (s t x : ByteArray) (p : List Int) (i : Nat) (m n : Int) (hs : spec_DrawSumOf.f k l0 = some s) (hp : spec_DrawPlaces.f k l0 = some p) (hpl : p.length = 12)
    (hse : impl_Sealed.f k s = some (t, true)) (hun : impl_Unsealed.f k t = some (s, true)) (hts : t.size = s.size + 4) (hss : s.size ≤ 20000)
    (hi : Int.tmod (p.getD 0 0) (t.size : Int) = (i : Int)) (hit : i < t.size)
    (hx : impl_Unsealed.f k (strOfNums ((bytesOf t).set i (turnB t i (p.getD 1 0)))) = some (x, false))
    (hm : impl_SumOf.f k s = some m) (hn : impl_SumMore.f k m ⟨#[120]⟩ = some n) (hn2 : impl_SumOf.f k (s ++ ⟨#[120]⟩) = some n) :
    Calls Try.prog 13 #[.slice A0 l0.length c0] w fun e w' => e = .returned (.bool true) ∧ Below w.heap.size w w' := by
  obtain ⟨P0, hP0⟩ : ∃ z, z = p.getD 0 0 := ⟨_, rfl⟩
  obtain ⟨P1, hP1⟩ : ∃ z, z = p.getD 1 0 := ⟨_, rfl⟩
  rw [← hP0] at hi
  rw [← hP1] at hx
  have HI0 := aM hP0
  have HI1 := aM hP1
  have HR0 := aM hr0
  have HC0 := aM hc0
  have A2 := aM hbg
  have AS := aM hs
  have AP := aM hp
  have ASE := aM hse
  have AUN := aM hun
  have AX := aM hx
  have AM_ := aM hm
  have AN := aM hn
  have AN2 := aM hn2
  have HPL := aM hpl
  have HIT := aM hit
  have HSS := aM hss
  have HTS := aM hts
  have HB := aM (Below.refl w.heap.size w)
  have q1 := tn1 hts hss
  have q2 := tn2 hts hss
  have q3 : (s.toList != s.toList) = false := by simp
  have q4 : ((t.size : Int) != (t.size : Int)) = false := by simp
  have q5 := tn5 hts
  have q5b : ¬ t = ByteArray.empty := by
    intro e
    rw [e] at hit
    exact absurd hit (Nat.not_lt_zero _)
  have q6 := tn6 hit
  have q7 := tn7 i
  have q9 := tn9 hss
  have q8 : Int.tmod P0 (t.size : Int) = (i : Int) := hi
  clear hP0 hP1
  clear hr0 hc0 hbg hs hp hse hun hx hm hn hn2 hpl hi hit hss hts
  go_enter Try.func13, Try.ntmps13
  go_wp2_with (first
    | (go_at_call 41; refine (laws_big.calls _ _ l0 false _ HR0.out HC0.out A2.out).mono ?_; rintro e w' ⟨rfl, ⟨nd, rfl⟩⟩)
    | (go_at_call 42; refine (spec_DrawSumOf.calls k _ _ l0 s _ (by repeat (first | exact HR0.out | (with_reducible refine cA ?_ _) | (with_reducible refine cN ?_ _) | (with_reducible refine cD ?_))) HC0.out AS.out).mono ?_; rintro e w2 ⟨rfl, hb⟩; have n0_ := aM (below_step (by repeat (first | (with_reducible first | exact HB.out | apply lA | apply lN | apply lD) | exact HB.out)) hb); clear HB; have HB := n0_; clear n0_ hb; have HR2 := aM (Kd.C_below HR0.out HB.out))
    | (go_at_call 43; refine (spec_DrawPlaces.calls k _ _ l0 p _ HR2.out HC0.out AP.out).mono ?_; rintro e w3 ⟨v3, rfl, hr, hb⟩; have n0_ := aM (below_step (by repeat (first | (with_reducible first | exact HB.out | apply lA | apply lN | apply lD) | exact HB.out)) hb); clear HB; have HB := n0_; clear n0_; clear hb; obtain ⟨gp, cp, rfl, hgp, hp0, hp1⟩ := row_form hr HPL.out; rw [← HI0.out] at hp0; rw [← HI1.out] at hp1; have HG := aM hgp; have HP0 := aM hp0; have HP1 := aM hp1; clear hr hgp hp0 hp1)
    | (go_at_call 16; refine (impl_Sealed.calls k s t true _ ASE.out).mono ?_; rintro e w4 ⟨rfl, hb⟩; have HG4 := aM (Nat.lt_of_lt_of_le HG.out hb.size); have HQ0 := aM ((hb.cell (p := ⟨gp, 0, none⟩) HG.out).trans HP0.out); have HQ1 := aM ((hb.cell (p := ⟨gp, 1, none⟩) HG.out).trans HP1.out); clear HG HP0 HP1; have HG := HG4; have HP0 := HQ0; have HP1 := HQ1; clear HG4 HQ0 HQ1; have n0_ := aM (below_step (by repeat (first | (with_reducible first | exact HB.out | apply lA | apply lN | apply lD) | exact HB.out)) hb); clear HB; have HB := n0_; clear n0_; clear hb)
    | (go_at_call 18; refine (impl_Unsealed.calls k t s true _ AUN.out).mono ?_; rintro e w5 ⟨rfl, hb⟩; have HG4 := aM (Nat.lt_of_lt_of_le HG.out hb.size); have HQ0 := aM ((hb.cell (p := ⟨gp, 0, none⟩) HG.out).trans HP0.out); have HQ1 := aM ((hb.cell (p := ⟨gp, 1, none⟩) HG.out).trans HP1.out); clear HG HP0 HP1; have HG := HG4; have HP0 := HQ0; have HP1 := HQ1; clear HG4 HQ0 HQ1; have n0_ := aM (below_step (by repeat (first | (with_reducible first | exact HB.out | apply lA | apply lN | apply lD) | exact HB.out)) hb); clear HB; have HB := n0_; clear n0_; clear hb)
    | ((with_reducible refine gate_dst (N := 49) rfl ?_); refine bytes_event t ?hz rfl ?hr ?_; (case hz => exact tn10 HTS.out HSS.out); (case hr => first | exact print_bytes (P := Try.prog) 9 48 5 Try.underlying9 Try.underlying48 Try.underlying5 t _ | (go_simp; rw [print_bytes (P := Try.prog) 9 48 5 Try.underlying9 Try.underlying48 Try.underlying5 t _]; rfl)); intro g c w6 hg6 hr6 hb hf6; have HQ0 := aM ((hb.cell (p := ⟨gp, 0, none⟩) HG.out).trans HP0.out); have HQ1 := aM ((hb.cell (p := ⟨gp, 1, none⟩) HG.out).trans HP1.out); have HGE := aM (show w.heap.size ≤ g by rw [hg6]; exact HB.out.size); have n0_ := aM (below_step (by repeat (first | (with_reducible first | exact HB.out | apply lA | apply lN | apply lD) | exact HB.out)) hb); clear HB; have HB := n0_; clear n0_; have HR6 := aM hr6; have HF6 := aM hf6; have hp0 := HQ0.out; have hp1 := HQ1.out; clear hb hr6 hf6 hg6))
  have hcb : w6.cell? ⟨g, i, none⟩ = some (.int .u8 (bt t (i : Int))) := by
    obtain ⟨ad, e, hc⟩ := HR6.out.2.2 (Nat.lt_of_le_of_lt (Nat.zero_le _) HIT.out)
    cases e
    have := hc i HIT.out
    rw [show (⟨g, 0, none⟩ : Addr).add i = ⟨g, i, none⟩ by cases i <;> simp [Addr.add]] at this
    rw [this, ← rd_bytesOf]
    rfl
  have hfb := HF6.out i HIT.out
  go_still_tail 14, (by kernel_rfl)
  have HW6 := aM (show ReadsInt (w6.setCell ⟨g, i, none⟩ (.int .u8 (Go.bits .xor .u8 (bt t (i : Int)) (wrap64 (1 + Int.tmod P1 255) % 256)))).drew .u8 (some ⟨g, 0, none⟩) t.size ((bytesOf t).set i (turnB t i P1)) from turned_reads HR6.out HIT.out (turnB t i P1))
  have hd9 : Below w.heap.size w (w6.setCell ⟨g, i, none⟩ (.int .u8 (Go.bits .xor .u8 (bt t (i : Int)) (wrap64 (1 + Int.tmod P1 255) % 256)))) := below_set HB.out HGE.out
  clear HB
  have HB := aM hd9
  clear hd9
  obtain ⟨t2, ht2⟩ : ∃ t2, t2 = strOfNums ((bytesOf t).set i (turnB t i P1)) := ⟨_, rfl⟩
  rw [← ht2] at AX
  have HT2 := aM ht2
  clear ht2
  go_wp2_with (first
    | ((with_reducible refine gate_dst (N := 72) rfl ?_); refine str_event t2 rfl ?hr ?_; (case hr => (go_simp; rw [string_of_reads (P := Try.prog) Try.underlying48 Try.underlying5 Try.underlying9 HW6.out, ← HT2.out]; rfl)))
    | (go_at_call 18; (with_reducible refine (impl_Unsealed.calls k t2 x false _ AX.out).mono ?_); rintro e w7 ⟨rfl, hb⟩; have n0_ := aM (below_step (by repeat (first | (with_reducible first | exact HB.out | apply lA | apply lN | apply lD) | exact HB.out)) hb); clear HB; have HB := n0_; clear n0_; clear hb)
    | (go_at_call 45; (with_reducible refine (impl_SumOf.calls k s m _ AM_.out).mono ?_); rintro e w' ⟨rfl, ⟨nd, rfl⟩⟩)
    | (go_at_call 44; (with_reducible refine (impl_SumMore.calls k m ⟨#[120]⟩ n _ AN.out).mono ?_); rintro e w' ⟨rfl, ⟨nd, rfl⟩⟩)
    | (go_at_call 45; (with_reducible refine (impl_SumOf.calls k (s ++ ⟨#[120]⟩) n _ AN2.out).mono ?_); rintro e w' ⟨rfl, ⟨nd, rfl⟩⟩))
  go_ret
  exact ⟨by first | rfl | simp, by repeat (first | (with_reducible first | exact HB.out | apply lA | apply lN | apply lD) | exact HB.out)⟩
/-- what the law answers, where it answers true -/
def laws_FnTurned.f (k : Nat) (l0 : List Int) : Option Bool :=
  (laws_big.f l0).bind fun b => if b = true then some true else
    (spec_DrawSumOf.f k l0).bind fun s => (spec_DrawPlaces.f k l0).bind fun p => (impl_Sealed.f k s).bind fun ts => (impl_Unsealed.f k ts.1).bind fun us =>
      if p.length = 12 ∧ ts.2 = true ∧ us = (s, true) ∧ ts.1.size = s.size + 4 ∧ s.size ≤ 20000 ∧ 0 ≤ Int.tmod (p.getD 0 0) (ts.1.size : Int) ∧ Int.tmod (p.getD 0 0) (ts.1.size : Int) < (ts.1.size : Int) then
        (impl_Unsealed.f k (strOfNums ((bytesOf ts.1).set (Int.tmod (p.getD 0 0) (ts.1.size : Int)).toNat (turnB ts.1 (Int.tmod (p.getD 0 0) (ts.1.size : Int)).toNat (p.getD 1 0))))).bind fun x => if x.2 = false then
          (impl_SumOf.f k s).bind fun m => (impl_SumMore.f k m ⟨#[120]⟩).bind fun n => (impl_SumOf.f k (s ++ ⟨#[120]⟩)).bind fun n2 => if n = n2 then some true else none
        else none
      else none
theorem laws_FnTurned.calls (k : Nat) (A0 : Option Addr) (c0 : Nat) (l0 : List Int) (r : Bool) (w : World) (hr0 : Kd.C (Kd.int .u8) w A0 l0.length l0) (hc0 : l0.length ≤ c0) (h : laws_FnTurned.f k l0 = some r) :
    Calls Try.prog 13 #[.slice A0 l0.length c0] w fun e w' => e = .returned (.bool r) ∧ Below w.heap.size w w' := by
  unfold laws_FnTurned.f at h
  obtain ⟨b, hb, e1⟩ := Option.bind_eq_some_iff.1 h
  clear h
  cases b with
  | true =>
    rw [if_pos rfl] at e1
    cases e1
    exact turned_big A0 c0 l0 w hr0 hc0 hb
  | false =>
    rw [if_neg (by decide)] at e1
    obtain ⟨s, hs, e2⟩ := Option.bind_eq_some_iff.1 e1
    clear e1
    obtain ⟨p, hp, e3⟩ := Option.bind_eq_some_iff.1 e2
    clear e2
    obtain ⟨ts, ht, e4⟩ := Option.bind_eq_some_iff.1 e3
    clear e3
    obtain ⟨t, tk⟩ := ts
    obtain ⟨us, hu, e5⟩ := Option.bind_eq_some_iff.1 e4
    clear e4
    by_cases hc : p.length = 12 ∧ tk = true ∧ us = (s, true) ∧ t.size = s.size + 4 ∧ s.size ≤ 20000 ∧ 0 ≤ Int.tmod (p.getD 0 0) (t.size : Int) ∧ Int.tmod (p.getD 0 0) (t.size : Int) < (t.size : Int)
    case neg => rw [if_neg hc] at e5; cases e5
    rw [if_pos hc] at e5
    obtain ⟨h12, hk, hu2, hts, hss, hi0, hi1⟩ := hc
    subst hk
    subst hu2
    obtain ⟨xs, hx, e6⟩ := Option.bind_eq_some_iff.1 e5
    clear e5
    obtain ⟨x, xk⟩ := xs
    cases xk with
    | true => rw [if_neg (show ¬ (true = false) by decide)] at e6; cases e6
    | false =>
      rw [if_pos rfl] at e6
      obtain ⟨m, hm, e7⟩ := Option.bind_eq_some_iff.1 e6
      obtain ⟨n, hn, e8⟩ := Option.bind_eq_some_iff.1 e7
      obtain ⟨n2, hn2, e9⟩ := Option.bind_eq_some_iff.1 e8
      by_cases he : n = n2
      case neg => rw [if_neg he] at e9; cases e9
      rw [if_pos he] at e9
      cases e9
      subst he
      exact turned_walk A0 c0 l0 w hr0 hc0 hb k s t x p (Int.tmod (p.getD 0 0) (t.size : Int)).toNat m n hs hp h12 ht hu hts hss (Int.toNat_of_nonneg hi0).symm (by omega) hx hm hn hn2
end Go.Proofs.Ytgdcfkhpeakbfaa.QFnTurned
