/- For every text and place the program's ReadShort returns what the reference's returns, without a condition of its own. -/
import Derived.Test.YtgdcfkhpeakbfaaPFnExactReadShortx2
namespace Go.Proofs.Ytgdcfkhpeakbfaa.Pure
open Go.RowKit Go.Proofs.Ytgdcfkhpeakbfaa.PFnExactReadShort Go.Proofs.YtgdcfkhpeakbfaaW.PrintWords Go.Proofs.YtgdcfkhpeakbfaaW.PrintLast

set_option linter.unusedVariables false
set_option linter.unusedSimpArgs false
/-! small words on rounds -/
theorem wid {x : Int} (h0 : -9223372036854775808 ≤ x) (h1 : x ≤ 9223372036854775807) : wrap64 x = x := by
  unfold wrap64; omega
theorem wrap_to {x y : Int} (h : x = y) (h0 : -9223372036854775808 ≤ y) (h1 : y ≤ 9223372036854775807) : wrap64 x = y := by
  rw [h]; exact wid h0 h1
theorem ev_some {α : Type} {o : Option α} {r : α} (h : o = some r) : Ev (fun _ => o) r := ⟨0, fun _ _ => h⟩
theorem ev_succ {α : Type} {g : Nat → Option α} {r : α} (h : Ev (fun k => g (k + 1)) r) : Ev g r := Ev.step (fun _ => rfl) h
theorem ev_if {α : Type} {c : Prop} [Decidable c] {f g : Nat → Option α} {r : α} (h : c) (k : Ev f r) : Ev (fun n => if c then f n else g n) r := by
  simp only [if_pos h]; exact k
theorem ev_else {α : Type} {c : Prop} [Decidable c] {f g : Nat → Option α} {r : α} (h : ¬ c) (k : Ev g r) : Ev (fun n => if c then f n else g n) r := by
  simp only [if_neg h]; exact k
theorem ev_bind0 {α β : Type} {o : Option α} {f : Nat → α → Option β} {a : α} {r : β} (h : o = some a) (k : Ev (fun n => f n a) r) : Ev (fun n => o.bind (f n)) r := by
  subst h; exact k
theorem ev_bind {α β : Type} {g : Nat → Option α} {f : Nat → α → Option β} {a : α} {r : β} (h : Ev g a) (k : Ev (fun n => f n a) r) : Ev (fun n => (g n).bind (f n)) r := Ev.bind h k
theorem ev_eq {α : Type} {g : Nat → Option α} {a b : α} (h : Ev g a) (e : a = b) : Ev g b := e ▸ h
theorem tdivp {a b : Int} (h : 0 ≤ a) : Int.tdiv a b = a / b := Int.tdiv_eq_ediv_of_nonneg h
theorem tmodp {a b : Int} (h : 0 ≤ a) : Int.tmod a b = a % b := Int.tmod_eq_emod_of_nonneg h
theorem toList_iff (a b : ByteArray) : a.toList = b.toList ↔ a = b := by
  rw [ByteArray.toList_eq, ByteArray.toList_eq]
  exact ⟨fun h => ByteArray.ext (Array.toList_inj.mp h), fun h => by rw [h]⟩
/-! the sum, over numbers -/
def crcBit (x : Nat) : Nat := if x % 2 = 1 then (x / 2) ^^^ 3558460437 else x / 2
def crcBits : Nat → Nat → Nat
  | 0, x => x
  | n + 1, x => crcBits n (crcBit x)
def crcL : List Nat → Nat → Nat
  | [], x => x
  | b :: bs, x => crcL bs (crcBits 8 (x ^^^ b))
theorem xor_u32 (a b : Nat) (ha : a < 4294967296) (hb : b < 4294967296) : Go.bits .xor .u32 (a : Int) (b : Int) = ((a ^^^ b : Nat) : Int) := by
  have h : a ^^^ b < 2 ^ 32 := Nat.xor_lt_two_pow ha hb
  have e1 : a % 2 ^ 32 = a := Nat.mod_eq_of_lt ha
  have e2 : b % 2 ^ 32 = b := Nat.mod_eq_of_lt hb
  have e3 : IntKind.u32.bits = 32 := rfl
  simp only [Go.bits, e3, BitVec.ofInt_natCast, BitVec.toNat_xor, BitVec.toNat_ofNat, e1, e2, IntKind.wrap_u32]
  omega
theorem and_one_u32 (a : Nat) (ha : a < 4294967296) : Go.bits .and .u32 (a : Int) 1 = ((a % 2 : Nat) : Int) := by
  have e1 : a % 2 ^ 32 = a := Nat.mod_eq_of_lt ha
  have e3 : IntKind.u32.bits = 32 := rfl
  have e4 : (1 : Int) = ((1 : Nat) : Int) := rfl
  rw [e4]
  simp only [Go.bits, e3, BitVec.ofInt_natCast, BitVec.toNat_and, BitVec.toNat_ofNat, e1, IntKind.wrap_u32]
  have : a &&& (1 % 2 ^ 32) = a % 2 := Nat.and_one_is_mod a
  rw [this]
  omega
theorem crcBit_lt {x : Nat} (h : x < 4294967296) : crcBit x < 4294967296 := by
  unfold crcBit
  split
  · exact Nat.xor_lt_two_pow (n := 32) (by omega) (by omega)
  · omega
theorem crcBits_lt {x : Nat} (h : x < 4294967296) : ∀ n, crcBits n x < 4294967296
  | 0 => h
  | n + 1 => by
    unfold crcBits
    exact crcBits_lt (crcBit_lt h) n
def natsOf (s : ByteArray) : List Nat := s.data.toList.map UInt8.toNat
theorem natsOf_length (s : ByteArray) : (natsOf s).length = s.size := by simp [natsOf]
theorem bt_nat (s : ByteArray) (i : Nat) (h : i < s.size) : bt s (i : Int) = ((s[i]'h).toNat : Int) := by
  unfold bt; simp [h]
theorem natsOf_drop (s : ByteArray) (i : Nat) (h : i < s.size) : (natsOf s).drop i = (s[i]'h).toNat :: (natsOf s).drop (i + 1) := by
  have hl : i < (natsOf s).length := by rw [natsOf_length]; exact h
  rw [List.drop_eq_getElem_cons hl]
  congr 1
  simp [natsOf]
  rfl
theorem natsOf_lt (s : ByteArray) : ∀ x ∈ natsOf s, x < 256 := by
  intro x hx
  simp only [natsOf, List.mem_map] at hx
  obtain ⟨b, _, rfl⟩ := hx
  exact b.toNat_lt
theorem crcL_lt : ∀ (l : List Nat) (x : Nat), (∀ b ∈ l, b < 256) → x < 4294967296 → crcL l x < 4294967296
  | [], _, _, h => h
  | b :: bs, x, hb, h => by
    unfold crcL
    have h1 := hb b (List.mem_cons_self ..)
    exact crcL_lt bs _ (fun c hc => hb c (List.mem_cons_of_mem _ hc)) (crcBits_lt (Nat.xor_lt_two_pow (n := 32) h (by omega)) 8)
/-! a number in bytes -/
def vtl (n : Nat) : List Nat := if h : 127 < n then (n % 128 + 128) :: vtl (n / 128) else [n]
termination_by n
decreasing_by omega
theorem vtl_big {n : Nat} (h : 127 < n) : vtl n = (n % 128 + 128) :: vtl (n / 128) := by rw [vtl, dif_pos h]
theorem vtl_small {n : Nat} (h : n ≤ 127) : vtl n = [n] := by rw [vtl, dif_neg (by omega)]
def intsOf (l : List Nat) : List Int := l.map fun (n : Nat) => (n : Int)
theorem vtl_lt : ∀ (n : Nat), ∀ b ∈ vtl n, b < 256 := by
  intro n
  induction n using Nat.strongRecOn with
  | ind n ih =>
    intro b hb
    by_cases h : 127 < n
    · rw [vtl_big h] at hb
      rcases List.mem_cons.1 hb with rfl | hb
      · omega
      · exact ih _ (by omega) b hb
    · rw [vtl_small (by omega)] at hb
      have : b = n := by simpa using hb
      omega
def strN (l : List Nat) : ByteArray := strOfNums (intsOf l)
theorem natsOf_strN (l : List Nat) (h : ∀ b ∈ l, b < 256) : natsOf (strN l) = l := by
  unfold natsOf strN strOfNums intsOf
  simp only [List.map_map]
  conv => rhs; rw [← List.map_id l]
  apply List.map_congr_left
  intro b hb
  have := h b hb
  simp [UInt8.toNat_ofNat, Nat.mod_eq_of_lt this]
theorem strN_natsOf (s : ByteArray) : strN (natsOf s) = s := by
  unfold natsOf strN strOfNums intsOf
  apply ByteArray.ext
  apply Array.toList_inj.1
  simp [List.map_map, Function.comp_def]
theorem strN_inj {a b : List Nat} (ha : ∀ x ∈ a, x < 256) (hb : ∀ x ∈ b, x < 256) (h : strN a = strN b) : a = b := by
  rw [← natsOf_strN a ha, h, natsOf_strN b hb]
theorem natsOf_inj {a b : ByteArray} (h : natsOf a = natsOf b) : a = b := by
  rw [← strN_natsOf a, h, strN_natsOf]
theorem natsOf_append (a b : ByteArray) : natsOf (a ++ b) = natsOf a ++ natsOf b := by
  simp [natsOf]
theorem strN_append (a b : List Nat) : strN (a ++ b) = strN a ++ strN b := by
  unfold strN strOfNums intsOf
  apply ByteArray.ext
  apply Array.toList_inj.1
  simp
theorem strN_size (l : List Nat) : (strN l).size = l.length := by
  rw [← data_length]
  simp [strN, strOfNums, intsOf]
theorem natsOf_extract (s : ByteArray) (i j : Nat) : natsOf (s.extract i j) = ((natsOf s).take j).drop i := by
  unfold natsOf
  rw [ByteArray.data_extract, Array.toList_extract, List.extract_eq_take_drop, List.map_take, List.map_drop, List.drop_take]
theorem vtl_len (n : Nat) : (vtl n).length ≤ n + 1 := by
  induction n using Nat.strongRecOn with
  | ind n ih =>
    by_cases h : 127 < n
    · rw [vtl_big h, List.length_cons]
      have := ih (n / 128) (by omega)
      omega
    · rw [vtl_small (by omega)]; simp
/-! a number read -/
def rvL : Nat → List Nat → Nat → Nat → Nat → Option (Nat × Nat)
  | 0, _, _, _, _ => none
  | _ + 1, [], _, _, _ => none
  | f + 1, b :: bs, n, u, i =>
    if 128 ≤ b then rvL f bs (n + b % 128 * u) (u * 128) (i + 1)
    else if (b = 0 ∧ 0 < i) ∨ 1000000000 < n + b % 128 * u then none else some (n + b % 128 * u, i + 1)
def rvR (p : Int) (o : Option (Nat × Nat)) : Int × Int × Bool :=
  match o with
  | none => (0, 0, false)
  | some (n, c) => ((n : Int), p + (c : Int), true)
def rvV (s : ByteArray) (p : Int) : Int × Int × Bool :=
  if 0 ≤ p ∧ p ≤ (s.size : Int) then rvR p (rvL 5 ((natsOf s).drop p.toNat) 0 1 0) else (0, 0, false)
def valL : List Nat → Nat
  | [] => 0
  | b :: bs => b % 128 + 128 * valL bs
theorem valL_snoc (l : List Nat) (b : Nat) : valL (l ++ [b]) = valL l + b % 128 * 128 ^ l.length := by
  induction l with
  | nil => simp [valL]
  | cons x l ih =>
    simp only [List.cons_append, valL, ih, List.length_cons, Nat.pow_succ]
    rw [Nat.mul_add, ← Nat.add_assoc]
    congr 1
    rw [Nat.mul_comm 128, Nat.mul_assoc]
theorem valL_pos (l : List Nat) (b : Nat) (hb : 0 < b) (hb' : b < 128) : 0 < valL (l ++ [b]) := by
  induction l with
  | nil => simp [valL]; omega
  | cons x l ih => simp only [List.cons_append, valL]; omega
theorem vtl_valL (b : Nat) (hb : b < 128) : ∀ (l : List Nat), (∀ x ∈ l, 128 ≤ x ∧ x < 256) → (b ≠ 0 ∨ l = []) → vtl (valL (l ++ [b])) = l ++ [b] := by
  intro l
  induction l with
  | nil =>
    intro _ _
    have : valL ([] ++ [b]) = b := by simp [valL]; omega
    rw [this, vtl_small (by omega)]
    rfl
  | cons x l ih =>
    intro hl h0
    have hb0 : b ≠ 0 := by rcases h0 with h | h; exact h; cases h
    have hp := valL_pos l b (by omega) hb
    have hx := hl x (List.mem_cons_self ..)
    have e : valL (x :: l ++ [b]) = x % 128 + 128 * valL (l ++ [b]) := rfl
    rw [e, vtl_big (by omega)]
    have e1 : (x % 128 + 128 * valL (l ++ [b])) % 128 + 128 = x := by omega
    have e2 : (x % 128 + 128 * valL (l ++ [b])) / 128 = valL (l ++ [b]) := by omega
    rw [e1, e2, ih (fun y hy => hl y (List.mem_cons_of_mem _ hy)) (.inl hb0)]
    rfl
theorem vtl_ne_nil (n : Nat) : vtl n ≠ [] := by
  by_cases h : 127 < n
  · rw [vtl_big h]; simp
  · rw [vtl_small (by omega)]; simp
theorem vtl_last : ∀ (n : Nat), 1 ≤ n → ∀ l, vtl n ≠ l ++ [0] := by
  intro n
  induction n using Nat.strongRecOn with
  | ind n ih =>
    intro hn l h
    by_cases hb : 127 < n
    · rw [vtl_big hb] at h
      cases l with
      | nil =>
        have : vtl (n / 128) = [] := (List.cons.inj h).2
        exact vtl_ne_nil _ this
      | cons y l => exact ih (n / 128) (by omega) (by omega) l (List.cons.inj h).2
    · rw [vtl_small (by omega)] at h
      cases l with
      | nil => have := (List.cons.inj h).1; omega
      | cons y l => have := (List.cons.inj h).2; cases l <;> cases this
theorem vtl_last2 (n : Nat) (l : List Nat) (hl : l ≠ []) : vtl n ≠ l ++ [0] := by
  intro h
  by_cases hn : 1 ≤ n
  · exact vtl_last n hn l h
  · rw [vtl_small (by omega)] at h
    cases l with
    | nil => exact hl rfl
    | cons y l => have := (List.cons.inj h).2; cases l <;> cases this
theorem pow128 {i : Nat} (h : i ≤ 4) : 128 ^ i ≤ 268435456 := Nat.le_trans (Nat.pow_le_pow_right (by omega) h) (by decide)
def readShortV (s : ByteArray) (p : Int) : ByteArray × Int × Bool :=
  if (rvV s p).2.2 = true ∧ (rvV s p).1 ≤ 20000 ∧ (rvV s p).1 ≤ (s.size : Int) - (rvV s p).2.1 then
    (s.extract (rvV s p).2.1.toNat ((rvV s p).2.1 + (rvV s p).1).toNat, (rvV s p).2.1 + (rvV s p).1, true)
  else (⟨#[]⟩, 0, false)
theorem rvL_bound : ∀ (f : Nat) (l : List Nat) (n u i : Nat) (m c : Nat), rvL f l n u i = some (m, c) → m ≤ 1000000000 ∧ c ≤ i + l.length
  | 0, _, _, _, _, _, _, h => by simp [rvL] at h
  | f + 1, [], _, _, _, _, _, h => by simp [rvL] at h
  | f + 1, b :: bs, n, u, i, m, c, h => by
    unfold rvL at h
    by_cases hge : 128 ≤ b
    · rw [if_pos hge] at h
      have := rvL_bound f bs _ _ _ m c h
      rw [List.length_cons]; omega
    · rw [if_neg hge] at h
      by_cases hc : (b = 0 ∧ 0 < i) ∨ 1000000000 < n + b % 128 * u
      · rw [if_pos hc] at h; cases h
      · rw [if_neg hc] at h
        have h' := Option.some.inj h
        have h1 := congrArg Prod.fst h'
        have h2 := congrArg Prod.snd h'
        simp only at h1 h2
        rw [List.length_cons]
        constructor
        · have : ¬ 1000000000 < n + b % 128 * u := fun hx => hc (.inr hx)
          omega
        · omega
theorem rvV_bound (s : ByteArray) (p : Int) : 0 ≤ (rvV s p).1 ∧ (rvV s p).1 ≤ 1000000000 ∧ 0 ≤ (rvV s p).2.1 ∧ (rvV s p).2.1 ≤ (s.size : Int) := by
  unfold rvV
  by_cases h : 0 ≤ p ∧ p ≤ (s.size : Int)
  · rw [if_pos h]
    cases hr : rvL 5 ((natsOf s).drop p.toNat) 0 1 0 with
    | none => simp only [rvR]; omega
    | some q =>
      obtain ⟨m, c⟩ := q
      have := rvL_bound _ _ _ _ _ _ _ hr
      rw [List.length_drop, natsOf_length] at this
      simp only [rvR]
      omega
  · rw [if_neg h]; simp only; omega
set_option maxHeartbeats 2000000 in
theorem impl_ReadVar_l0 (s : ByteArray) (hs : s.size ≤ 140737488355328) (p : Nat) (hp : p ≤ s.size) : ∀ (f i n u : Nat), i + f = 5 → u = 128 ^ i → n < u →
    Ev (fun k => impl_ReadVar.l0 k s (p : Int) (n : Int) (u : Int) (i : Int)) (rvR (p : Int) (rvL f ((natsOf s).drop (p + i)) n u i)) := by
  intro f
  induction f with
  | zero =>
    intro i n u hi hu hn
    refine ev_succ ?_
    simp only [impl_ReadVar.l0]
    refine ev_else (by omega) ?_
    refine ev_succ ?_
    simp only [impl_ReadVar.j2]
    exact ev_else (by simp) (ev_some rfl)
  | succ f ih =>
    intro i n u hi hu hn
    have hub : u ≤ 268435456 := by rw [hu]; exact pow128 (by omega)
    refine ev_succ ?_
    simp only [impl_ReadVar.l0]
    refine ev_if (by omega) ?_
    have ep : wrap64 ((p : Int) + (i : Int)) = ((p + i : Nat) : Int) := wrap_to (by omega) (by omega) (by omega)
    rw [ep]
    refine ev_succ ?_
    simp only [impl_ReadVar.j2]
    by_cases hlt : p + i < s.size
    · refine ev_if (by simp; omega) ?_
      rw [ep]
      refine ev_if (by omega) ?_
      refine ev_if (by omega) ?_
      have hbb : (s[p + i]'hlt).toNat < 256 := UInt8.toNat_lt _
      rw [bt_nat s (p + i) hlt, natsOf_drop s (p + i) hlt]
      generalize (s[p + i]'hlt).toNat = b at hbb ⊢
      have hm : b % 128 * u ≤ 127 * u := Nat.mul_le_mul_right _ (by omega)
      obtain ⟨e1, e2, e3, e4, e5, e6⟩ :
          wrap64 (b : Int) = (b : Int) ∧
          wrap64 (Int.tmod (b : Int) 128 * (u : Int)) = ((b % 128 * u : Nat) : Int) ∧
          wrap64 ((n : Int) + ((b % 128 * u : Nat) : Int)) = ((n + b % 128 * u : Nat) : Int) ∧
          wrap64 ((u : Int) * 128) = ((u * 128 : Nat) : Int) ∧
          wrap64 ((i : Int) + 1) = ((i + 1 : Nat) : Int) ∧
          wrap64 (((p + i : Nat) : Int) + 1) = (p : Int) + ((i + 1 : Nat) : Int) := by
        refine ⟨?_, ?_, ?_, ?_, ?_, ?_⟩
        · exact wid (by omega) (by omega)
        · have hb1 : Int.tmod (b : Int) 128 = ((b % 128 : Nat) : Int) := by rw [tmodp (Int.natCast_nonneg _)]; omega
          rw [hb1, ← Int.natCast_mul]
          exact wid (by omega) (by omega)
        · exact wrap_to (by omega) (by omega) (by omega)
        · exact wrap_to (by omega) (by omega) (by omega)
        · exact wrap_to (by omega) (by omega) (by omega)
        · exact wrap_to (by omega) (by omega) (by omega)
      rw [e1, e2, e3, e4, e5, e6]
      clear e1 e2 e3 e4 e5 e6
      unfold rvL
      by_cases hge : 128 ≤ b
      · refine ev_if (by omega) ?_
        rw [if_pos hge]
        have := ih (i + 1) (n + b % 128 * u) (u * 128) (by omega) (by rw [hu, Nat.pow_succ]) (by omega)
        exact this
      · refine ev_else (by omega) ?_
        rw [if_neg hge]
        by_cases hb0 : b = 0
        · refine ev_if (by omega) ?_
          by_cases hi0 : 0 < i
          · rw [if_pos (show (b = 0 ∧ 0 < i) ∨ 1000000000 < n + b % 128 * u from .inl ⟨hb0, hi0⟩)]
            exact ev_if (by omega) (ev_some rfl)
          · refine ev_else (by omega) ?_
            by_cases hmax : 1000000000 < n + b % 128 * u
            · rw [if_pos (show (b = 0 ∧ 0 < i) ∨ 1000000000 < n + b % 128 * u from .inr hmax)]
              exact ev_if (by omega) (ev_some rfl)
            · rw [if_neg (show ¬ ((b = 0 ∧ 0 < i) ∨ 1000000000 < n + b % 128 * u) by omega)]
              exact ev_else (by omega) (ev_some rfl)
        · refine ev_else (by omega) ?_
          by_cases hmax : 1000000000 < n + b % 128 * u
          · rw [if_pos (show (b = 0 ∧ 0 < i) ∨ 1000000000 < n + b % 128 * u from .inr hmax)]
            exact ev_if (by omega) (ev_some rfl)
          · rw [if_neg (show ¬ ((b = 0 ∧ 0 < i) ∨ 1000000000 < n + b % 128 * u) by omega)]
            exact ev_else (by omega) (ev_some rfl)
    · refine ev_else (by simp; omega) ?_
      have : (natsOf s).drop (p + i) = [] := List.drop_eq_nil_of_le (by rw [natsOf_length]; omega)
      rw [this]
      exact ev_some rfl
theorem impl_ReadVar_f (s : ByteArray) (hs : s.size ≤ 140737488355328) (p : Int) : Ev (fun k => impl_ReadVar.f k s p) (rvV s p) := by
  unfold impl_ReadVar.f rvV
  by_cases h0 : p < 0
  · rw [if_neg (by omega)]
    refine ev_if h0 (ev_succ ?_)
    simp only [impl_ReadVar.j0]
    exact ev_if (by simp) (ev_some rfl)
  · refine ev_else h0 (ev_succ ?_)
    simp only [impl_ReadVar.j0]
    by_cases h1 : p > (s.size : Int)
    · rw [if_neg (by omega)]
      exact ev_if (by simpa using h1) (ev_some rfl)
    · refine ev_else (by simpa using h1) ?_
      rw [if_pos (by omega)]
      obtain ⟨q, rfl⟩ := Int.eq_ofNat_of_zero_le (a := p) (by omega)
      exact impl_ReadVar_l0 s hs q (by omega) 5 0 0 1 (by omega) (by simp) (by omega)
theorem impl_ReadShort_f (s : ByteArray) (hs : s.size ≤ 140737488351232) (p : Int) : Ev (fun k => impl_ReadShort.f k s p) (readShortV s p) := by
  unfold impl_ReadShort.f readShortV
  refine ev_bind (impl_ReadVar_f s (by omega) p) ?_
  have hb := rvV_bound s p
  generalize rvV s p = v at hb ⊢
  obtain ⟨n, q, b⟩ := v
  simp only at hb ⊢
  by_cases h1 : b = true
  · refine ev_if h1 ?_
    by_cases h2 : n > 20000
    · exact ev_if h2 (ev_some (congrArg some (if_neg (by omega)).symm))
    refine ev_else h2 ?_
    rw [wid (x := (s.size : Int) - q) (by omega) (by omega), wid (x := q + n) (by omega) (by omega)]
    by_cases h3 : n > (s.size : Int) - q
    · exact ev_if h3 (ev_some (congrArg some (if_neg (by omega)).symm))
    refine ev_else h3 (ev_if (by omega) (ev_if (by omega) (ev_if (by omega) ?_)))
    exact ev_some (congrArg some (if_pos ⟨h1, by omega, by omega⟩).symm)
  · exact ev_else h1 (ev_some (congrArg some (if_neg (fun hc => h1 hc.1)).symm))
theorem spec_l01Var_l0 : ∀ (n : Nat) (xs : List Nat), xs.length + n < 140737488355328 → Ev (fun k => spec_l01Var.l0 k (n : Int) (intsOf xs)) (strN (xs ++ vtl n)) := by
  intro n
  induction n using Nat.strongRecOn with
  | ind n ih =>
    intro xs hl
    refine ev_succ ?_
    simp only [spec_l01Var.l0]
    have hlen : (intsOf xs).length = xs.length := by simp [intsOf]
    by_cases h : 127 < n
    · refine ev_if (by omega) ?_
      refine ev_if (by rw [hlen]; omega) ?_
      have e1 : wrap64 (Int.tdiv (n : Int) 128) = ((n / 128 : Nat) : Int) := by rw [tdivp (Int.natCast_nonneg _)]; exact wrap_to (by omega) (by omega) (by omega)
      have e2 : wrap64 ((Int.tmod (n : Int) 128) + 128) % 256 = ((n % 128 + 128 : Nat) : Int) := by rw [tmodp (Int.natCast_nonneg _), wrap_to (y := ((n % 128 + 128 : Nat) : Int)) (by omega) (by omega) (by omega)]; omega
      have e3 : intsOf xs ++ [((n % 128 + 128 : Nat) : Int)] = intsOf (xs ++ [n % 128 + 128]) := by simp [intsOf]
      rw [e1, e2, e3, vtl_big h]
      have e4 : xs ++ (n % 128 + 128) :: vtl (n / 128) = (xs ++ [n % 128 + 128]) ++ vtl (n / 128) := by simp
      rw [e4]
      exact ih (n / 128) (by omega) _ (by rw [List.length_append, List.length_singleton]; omega)
    · refine ev_else (by omega) ?_
      refine ev_if (by rw [hlen]; omega) ?_
      have e2 : (n : Int) % 256 = (n : Int) := by omega
      have e3 : intsOf xs ++ [(n : Int)] = intsOf (xs ++ [n]) := by simp [intsOf]
      rw [e2, e3, vtl_small (by omega)]
      exact ev_some rfl
theorem spec_l01Var_f (n : Nat) (h : n < 140737488355328) : Ev (fun k => spec_l01Var.f k (n : Int)) (strN (vtl n)) := by
  have := spec_l01Var_l0 n [] (by simpa using h)
  simpa [spec_l01Var.f, intsOf] using this
theorem spec_l01In_f (x a b : Int) : spec_l01In.f x a b = some (decide (a ≤ x ∧ x ≤ b)) := by
  unfold spec_l01In.f
  by_cases h1 : a ≤ x <;> by_cases h2 : x ≤ b <;> simp [h1, h2]
set_option maxHeartbeats 2000000 in
theorem spec_ReadVar_l0 (s : ByteArray) (hs : s.size ≤ 140737488351232) (p : Nat) (hp : p ≤ s.size) : ∀ (f i n u : Nat), i + f = 5 → p + i ≤ s.size → u = 128 ^ i → n < u →
    (∀ x ∈ ((natsOf s).drop p).take i, 128 ≤ x ∧ x < 256) → n = valL (((natsOf s).drop p).take i) →
    Ev (fun k => spec_ReadVar.l0 k s (p : Int) (n : Int) (u : Int) ((p + i : Nat) : Int)) (rvR (p : Int) (rvL f ((natsOf s).drop (p + i)) n u i)) := by
  intro f
  induction f with
  | zero =>
    intro i n u hi hpi hu hn _ _
    refine ev_succ ?_
    simp only [spec_ReadVar.l0]
    have e5 : wrap64 ((p : Int) + 5) = ((p + 5 : Nat) : Int) := wrap_to (by omega) (by omega) (by omega)
    rw [e5]
    have e6 : decide (((p + i : Nat) : Int) < ((p + 5 : Nat) : Int)) = false := by simp; omega
    rw [e6]
    by_cases hlt : p + i < s.size
    · refine ev_if (by omega) (ev_succ ?_)
      simp only [spec_ReadVar.j1]
      exact ev_else (by simp) (ev_some rfl)
    · refine ev_else (by omega) (ev_succ ?_)
      simp only [spec_ReadVar.j1]
      exact ev_else (by simp) (ev_some rfl)
  | succ f ih =>
    intro i n u hi hpi hu hn hpre hval
    have hub : u ≤ 268435456 := by rw [hu]; exact pow128 (by omega)
    refine ev_succ ?_
    simp only [spec_ReadVar.l0]
    have e5 : wrap64 ((p : Int) + 5) = ((p + 5 : Nat) : Int) := wrap_to (by omega) (by omega) (by omega)
    rw [e5]
    have e6 : decide (((p + i : Nat) : Int) < ((p + 5 : Nat) : Int)) = true := by simp; omega
    rw [e6]
    by_cases hlt : p + i < s.size
    · refine ev_if (by omega) (ev_succ ?_)
      simp only [spec_ReadVar.j1]
      refine ev_if (by simp) ?_
      refine ev_if (by omega) ?_
      refine ev_if (by omega) ?_
      have hbb : (s[p + i]'hlt).toNat < 256 := UInt8.toNat_lt _
      have htake : ((natsOf s).drop p).take (i + 1) = ((natsOf s).drop p).take i ++ [(s[p + i]'hlt).toNat] := by
        have h1 : i < ((natsOf s).drop p).length := by rw [List.length_drop, natsOf_length]; omega
        rw [List.take_succ_eq_append_getElem h1]
        congr 2
        rw [List.getElem_drop]
        simp [natsOf]
        rfl
      have hext : natsOf (s.extract p (p + i + 1)) = ((natsOf s).drop p).take (i + 1) := by
        rw [natsOf_extract, List.take_drop]
        congr 2
      have hlen : (((natsOf s).drop p).take i).length = i := by rw [List.length_take, List.length_drop, natsOf_length]; omega
      rw [bt_nat s (p + i) hlt, natsOf_drop s (p + i) hlt]
      generalize (s[p + i]'hlt).toNat = b at hbb htake ⊢
      have hm : b % 128 * u ≤ 127 * u := Nat.mul_le_mul_right _ (by omega)
      obtain ⟨e1, e2, e3, e4, e6, e7⟩ :
          wrap64 (b : Int) = (b : Int) ∧
          wrap64 (Int.tmod (b : Int) 128 * (u : Int)) = ((b % 128 * u : Nat) : Int) ∧
          wrap64 ((n : Int) + ((b % 128 * u : Nat) : Int)) = ((n + b % 128 * u : Nat) : Int) ∧
          wrap64 ((u : Int) * 128) = ((u * 128 : Nat) : Int) ∧
          wrap64 (((p + i : Nat) : Int) + 1) = ((p + (i + 1) : Nat) : Int) ∧
          ((p + (i + 1) : Nat) : Int) = (p : Int) + ((i + 1 : Nat) : Int) := by
        refine ⟨?_, ?_, ?_, ?_, ?_, ?_⟩
        · exact wid (by omega) (by omega)
        · have hb1 : Int.tmod (b : Int) 128 = ((b % 128 : Nat) : Int) := by rw [tmodp (Int.natCast_nonneg _)]; omega
          rw [hb1, ← Int.natCast_mul]
          exact wid (by omega) (by omega)
        · exact wrap_to (by omega) (by omega) (by omega)
        · exact wrap_to (by omega) (by omega) (by omega)
        · exact wrap_to (by omega) (by omega) (by omega)
        · exact by omega
      rw [e1, e2, e3, e4, e6]
      clear e1 e2 e3 e4 e6
      have hval' : n + b % 128 * u = valL (((natsOf s).drop p).take i ++ [b]) := by rw [valL_snoc, hlen, hval, hu]
      unfold rvL
      by_cases hge : 128 ≤ b
      · refine ev_else (by omega) ?_
        rw [if_pos hge]
        refine ih (i + 1) (n + b % 128 * u) (u * 128) (by omega) (by omega) (by rw [hu, Nat.pow_succ]) (by omega) ?_ ?_
        · rw [htake]
          intro x hx
          rcases List.mem_append.1 hx with hx | hx
          · exact hpre x hx
          · have : x = b := by simpa using hx
            omega
        · rw [htake]; exact hval'
      · refine ev_if (by omega) ?_
        rw [if_neg hge]
        by_cases hmax : 1000000000 < n + b % 128 * u
        · rw [if_pos (show (b = 0 ∧ 0 < i) ∨ 1000000000 < n + b % 128 * u from .inr hmax)]
          exact ev_if (by omega) (ev_some rfl)
        · refine ev_else (by omega) ?_
          refine ev_bind (spec_l01Var_f _ (by omega)) ?_
          refine ev_if (by omega) ?_
          refine ev_if (by omega) ?_
          refine ev_if (by omega) ?_
          have et : ((p : Int)).toNat = p := rfl
          have et' : (((p + (i + 1) : Nat) : Int)).toNat = p + i + 1 := rfl
          rw [et, et']
          by_cases hb0 : b = 0 ∧ 0 < i
          · rw [if_pos (show (b = 0 ∧ 0 < i) ∨ 1000000000 < n + b % 128 * u from .inl hb0)]
            refine ev_else ?_ (ev_some rfl)
            rw [toList_iff]
            intro h
            have h2 : vtl (n + b % 128 * u) = ((natsOf s).drop p).take i ++ [b] := by
              rw [← natsOf_strN (vtl _) (vtl_lt _), h, hext, htake]
            rw [hb0.1] at h2
            refine vtl_last2 _ _ ?_ h2
            intro hnil
            rw [hnil] at hlen
            simp at hlen
            omega
          · rw [if_neg (show ¬ ((b = 0 ∧ 0 < i) ∨ 1000000000 < n + b % 128 * u) from fun hc => hc.elim hb0 hmax)]
            refine ev_if ?_ ?_
            · rw [toList_iff]
              apply natsOf_inj
              rw [natsOf_strN _ (vtl_lt _), hext, htake, hval']
              refine vtl_valL b (by omega) _ hpre ?_
              by_cases hb : b = 0
              · right
                apply List.eq_nil_of_length_eq_zero
                rw [hlen]; omega
              · exact .inl hb
            · rw [e7]; exact ev_some rfl
    · refine ev_else (by omega) (ev_succ ?_)
      simp only [spec_ReadVar.j1]
      refine ev_else (by simp) ?_
      have : (natsOf s).drop (p + i) = [] := List.drop_eq_nil_of_le (by rw [natsOf_length]; omega)
      rw [this]
      exact ev_some rfl
theorem spec_ReadVar_f (s : ByteArray) (hs : s.size ≤ 140737488351232) (p : Int) : Ev (fun k => spec_ReadVar.f k s p) (rvV s p) := by
  unfold spec_ReadVar.f rvV
  refine ev_bind0 (spec_l01In_f _ _ _) ?_
  by_cases h0 : 0 ≤ p ∧ p ≤ (s.size : Int)
  · rw [if_pos h0]
    refine ev_if (by simp [h0]) ?_
    obtain ⟨q, rfl⟩ := Int.eq_ofNat_of_zero_le (a := p) (by omega)
    exact spec_ReadVar_l0 s hs q (by omega) 5 0 0 1 (by omega) (by omega) (by simp) (by omega) (by simp) (by simp [valL])
  · rw [if_neg h0]
    exact ev_else (by simp [h0]) (ev_some rfl)
theorem spec_ReadShort_f (s : ByteArray) (hs : s.size ≤ 140737488351232) (p : Int) : Ev (fun k => spec_ReadShort.f k s p) (readShortV s p) := by
  unfold spec_ReadShort.f readShortV
  refine ev_bind (spec_ReadVar_f s (by omega) p) ?_
  have hb := rvV_bound s p
  generalize rvV s p = v at hb ⊢
  obtain ⟨n, q, b⟩ := v
  simp only at hb ⊢
  by_cases h1 : b = true
  · refine ev_if h1 ?_
    by_cases h2 : n > 20000
    · exact ev_if h2 (ev_some (congrArg some (if_neg (by omega)).symm))
    refine ev_else h2 ?_
    rw [wid (x := (s.size : Int) - q) (by omega) (by omega), wid (x := q + n) (by omega) (by omega)]
    by_cases h3 : n > (s.size : Int) - q
    · exact ev_if h3 (ev_some (congrArg some (if_neg (by omega)).symm))
    refine ev_else h3 (ev_if (by omega) (ev_if (by omega) (ev_if (by omega) ?_)))
    exact ev_some (congrArg some (if_pos ⟨h1, by omega, by omega⟩).symm)
  · exact ev_else h1 (ev_some (congrArg some (if_neg (fun hc => h1 hc.1)).symm))
theorem FnExactReadShort : laws_FnExactReadShort.Pure := by
  intro a0 a1 h0 h1
  refine Ev.rounds ?_
  unfold laws_FnExactReadShort.f
  by_cases hbig : (a0.size : Int) > 1048576
  · exact ev_if hbig (ev_some rfl)
  refine ev_else hbig ?_
  refine ev_bind (spec_ReadShort_f a0 (by omega) a1) ?_
  refine ev_bind (impl_ReadShort_f a0 (by omega) a1) ?_
  refine ev_if rfl (ev_if rfl ?_)
  exact ev_else (by simp) (ev_some rfl)

end Go.Proofs.Ytgdcfkhpeakbfaa.Pure
