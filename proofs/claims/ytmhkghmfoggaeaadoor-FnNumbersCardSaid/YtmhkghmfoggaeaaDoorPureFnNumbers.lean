/- Drawn numbers and texts come back from what tells them. -/
import Derived.Test.YtmhkghmfoggaeaaDoorQFnNumbersx4
import Derived.Lib.ItoaMem
import Derived.Lib.ItoaLen
namespace Go.Proofs.YtmhkghmfoggaeaaDoor.Pure
open Go.RowKit Go.Proofs.YtmhkghmfoggaeaaDoor.QFnNumbers Go.Proofs.YtmhkghmfoggaeaaDoorW.PrintWords Go.Proofs.YtmhkghmfoggaeaaDoorW.PrintLast

set_option linter.unusedVariables false
set_option linter.unusedSimpArgs false
/-! small words on rounds -/
theorem wid {x : Int} (h0 : -9223372036854775808 ≤ x) (h1 : x ≤ 9223372036854775807) : wrap64 x = x := by
  unfold wrap64; omega
theorem wrap_to {x y : Int} (h : x = y) (h0 : -9223372036854775808 ≤ y) (h1 : y ≤ 9223372036854775807) : wrap64 x = y := by
  rw [h]; exact wid h0 h1
theorem ev_some {α : Type} {o : Option α} {r : α} (h : o = some r) : Ev (fun _ => o) r := ⟨0, fun _ _ => h⟩
theorem ev_succ {α : Type} {g : Nat → Option α} {r : α} (h : Ev (fun k => g (k + 1)) r) : Ev g r := Ev.step (fun _ => rfl) h
theorem ev_if {α : Type} {c : Prop} [Decidable c] {f g : Nat → Option α} {r : α} (h : c) (k : Ev f r) : Ev (fun n => if c then f n else g n) r := by
  simp only [if_pos h]; exact k
theorem ev_else {α : Type} {c : Prop} [Decidable c] {f g : Nat → Option α} {r : α} (h : ¬ c) (k : Ev g r) : Ev (fun n => if c then f n else g n) r := by
  simp only [if_neg h]; exact k
theorem ev_bind0 {α β : Type} {o : Option α} {f : Nat → α → Option β} {a : α} {r : β} (h : o = some a) (k : Ev (fun n => f n a) r) : Ev (fun n => o.bind (f n)) r := by
  subst h; exact k
theorem ev_bind {α β : Type} {g : Nat → Option α} {f : Nat → α → Option β} {a : α} {r : β} (h : Ev g a) (k : Ev (fun n => f n a) r) : Ev (fun n => (g n).bind (f n)) r := Ev.bind h k
theorem ev_eq {α : Type} {g : Nat → Option α} {a b : α} (h : Ev g a) (e : a = b) : Ev g b := e ▸ h
theorem tdivp {a b : Int} (h : 0 ≤ a) : Int.tdiv a b = a / b := Int.tdiv_eq_ediv_of_nonneg h
theorem tmodp {a b : Int} (h : 0 ≤ a) : Int.tmod a b = a % b := Int.tmod_eq_emod_of_nonneg h
theorem toList_iff (a b : ByteArray) : a.toList = b.toList ↔ a = b := by
  rw [ByteArray.toList_eq, ByteArray.toList_eq]
  exact ⟨fun h => ByteArray.ext (Array.toList_inj.mp h), fun h => by rw [h]⟩
/-! the sum, over numbers -/
def crcBit (x : Nat) : Nat := if x % 2 = 1 then (x / 2) ^^^ 3558460437 else x / 2
def crcBits : Nat → Nat → Nat
  | 0, x => x
  | n + 1, x => crcBits n (crcBit x)
def crcL : List Nat → Nat → Nat
  | [], x => x
  | b :: bs, x => crcL bs (crcBits 8 (x ^^^ b))
theorem xor_u32 (a b : Nat) (ha : a < 4294967296) (hb : b < 4294967296) : Go.bits .xor .u32 (a : Int) (b : Int) = ((a ^^^ b : Nat) : Int) := by
  have h : a ^^^ b < 2 ^ 32 := Nat.xor_lt_two_pow ha hb
  have e1 : a % 2 ^ 32 = a := Nat.mod_eq_of_lt ha
  have e2 : b % 2 ^ 32 = b := Nat.mod_eq_of_lt hb
  have e3 : IntKind.u32.bits = 32 := rfl
  simp only [Go.bits, e3, BitVec.ofInt_natCast, BitVec.toNat_xor, BitVec.toNat_ofNat, e1, e2, IntKind.wrap_u32]
  omega
theorem and_one_u32 (a : Nat) (ha : a < 4294967296) : Go.bits .and .u32 (a : Int) 1 = ((a % 2 : Nat) : Int) := by
  have e1 : a % 2 ^ 32 = a := Nat.mod_eq_of_lt ha
  have e3 : IntKind.u32.bits = 32 := rfl
  have e4 : (1 : Int) = ((1 : Nat) : Int) := rfl
  rw [e4]
  simp only [Go.bits, e3, BitVec.ofInt_natCast, BitVec.toNat_and, BitVec.toNat_ofNat, e1, IntKind.wrap_u32]
  have : a &&& (1 % 2 ^ 32) = a % 2 := Nat.and_one_is_mod a
  rw [this]
  omega
theorem crcBit_lt {x : Nat} (h : x < 4294967296) : crcBit x < 4294967296 := by
  unfold crcBit
  split
  · exact Nat.xor_lt_two_pow (n := 32) (by omega) (by omega)
  · omega
theorem crcBits_lt {x : Nat} (h : x < 4294967296) : ∀ n, crcBits n x < 4294967296
  | 0 => h
  | n + 1 => by
    unfold crcBits
    exact crcBits_lt (crcBit_lt h) n
def natsOf (s : ByteArray) : List Nat := s.data.toList.map UInt8.toNat
theorem natsOf_length (s : ByteArray) : (natsOf s).length = s.size := by simp [natsOf]
theorem bt_nat (s : ByteArray) (i : Nat) (h : i < s.size) : bt s (i : Int) = ((s[i]'h).toNat : Int) := by
  unfold bt; simp [h]
theorem natsOf_drop (s : ByteArray) (i : Nat) (h : i < s.size) : (natsOf s).drop i = (s[i]'h).toNat :: (natsOf s).drop (i + 1) := by
  have hl : i < (natsOf s).length := by rw [natsOf_length]; exact h
  rw [List.drop_eq_getElem_cons hl]
  congr 1
  simp [natsOf]
  rfl
theorem natsOf_lt (s : ByteArray) : ∀ x ∈ natsOf s, x < 256 := by
  intro x hx
  simp only [natsOf, List.mem_map] at hx
  obtain ⟨b, _, rfl⟩ := hx
  exact b.toNat_lt
theorem crcL_lt : ∀ (l : List Nat) (x : Nat), (∀ b ∈ l, b < 256) → x < 4294967296 → crcL l x < 4294967296
  | [], _, _, h => h
  | b :: bs, x, hb, h => by
    unfold crcL
    have h1 := hb b (List.mem_cons_self ..)
    exact crcL_lt bs _ (fun c hc => hb c (List.mem_cons_of_mem _ hc)) (crcBits_lt (Nat.xor_lt_two_pow (n := 32) h (by omega)) 8)
/-! a number in bytes -/
def vtl (n : Nat) : List Nat := if h : 127 < n then (n % 128 + 128) :: vtl (n / 128) else [n]
termination_by n
decreasing_by omega
theorem vtl_big {n : Nat} (h : 127 < n) : vtl n = (n % 128 + 128) :: vtl (n / 128) := by rw [vtl, dif_pos h]
theorem vtl_small {n : Nat} (h : n ≤ 127) : vtl n = [n] := by rw [vtl, dif_neg (by omega)]
def intsOf (l : List Nat) : List Int := l.map fun (n : Nat) => (n : Int)
theorem vtl_lt : ∀ (n : Nat), ∀ b ∈ vtl n, b < 256 := by
  intro n
  induction n using Nat.strongRecOn with
  | ind n ih =>
    intro b hb
    by_cases h : 127 < n
    · rw [vtl_big h] at hb
      rcases List.mem_cons.1 hb with rfl | hb
      · omega
      · exact ih _ (by omega) b hb
    · rw [vtl_small (by omega)] at hb
      have : b = n := by simpa using hb
      omega
def strN (l : List Nat) : ByteArray := strOfNums (intsOf l)
theorem natsOf_strN (l : List Nat) (h : ∀ b ∈ l, b < 256) : natsOf (strN l) = l := by
  unfold natsOf strN strOfNums intsOf
  simp only [List.map_map]
  conv => rhs; rw [← List.map_id l]
  apply List.map_congr_left
  intro b hb
  have := h b hb
  simp [UInt8.toNat_ofNat, Nat.mod_eq_of_lt this]
theorem strN_natsOf (s : ByteArray) : strN (natsOf s) = s := by
  unfold natsOf strN strOfNums intsOf
  apply ByteArray.ext
  apply Array.toList_inj.1
  simp [List.map_map, Function.comp_def]
theorem strN_inj {a b : List Nat} (ha : ∀ x ∈ a, x < 256) (hb : ∀ x ∈ b, x < 256) (h : strN a = strN b) : a = b := by
  rw [← natsOf_strN a ha, h, natsOf_strN b hb]
theorem natsOf_inj {a b : ByteArray} (h : natsOf a = natsOf b) : a = b := by
  rw [← strN_natsOf a, h, strN_natsOf]
theorem natsOf_append (a b : ByteArray) : natsOf (a ++ b) = natsOf a ++ natsOf b := by
  simp [natsOf]
theorem strN_append (a b : List Nat) : strN (a ++ b) = strN a ++ strN b := by
  unfold strN strOfNums intsOf
  apply ByteArray.ext
  apply Array.toList_inj.1
  simp
theorem strN_size (l : List Nat) : (strN l).size = l.length := by
  rw [← data_length]
  simp [strN, strOfNums, intsOf]
theorem natsOf_extract (s : ByteArray) (i j : Nat) : natsOf (s.extract i j) = ((natsOf s).take j).drop i := by
  unfold natsOf
  rw [ByteArray.data_extract, Array.toList_extract, List.extract_eq_take_drop, List.map_take, List.map_drop, List.drop_take]
theorem vtl_len (n : Nat) : (vtl n).length ≤ n + 1 := by
  induction n using Nat.strongRecOn with
  | ind n ih =>
    by_cases h : 127 < n
    · rw [vtl_big h, List.length_cons]
      have := ih (n / 128) (by omega)
      omega
    · rw [vtl_small (by omega)]; simp
theorem impl_varText_l0 : ∀ (n : Nat) (xs : List Nat), xs.length + n < 140737488355328 → Ev (fun k => impl_varText.l0 k (n : Int) (intsOf xs)) (strN (xs ++ vtl n)) := by
  intro n
  induction n using Nat.strongRecOn with
  | ind n ih =>
    intro xs hl
    refine ev_succ ?_
    simp only [impl_varText.l0]
    have hlen : (intsOf xs).length = xs.length := by simp [intsOf]
    by_cases h : 127 < n
    · refine ev_if (by omega) ?_
      refine ev_if (by rw [hlen]; omega) ?_
      have e1 : wrap64 (Int.tdiv (n : Int) 128) = ((n / 128 : Nat) : Int) := by rw [tdivp (Int.natCast_nonneg _)]; exact wrap_to (by omega) (by omega) (by omega)
      have e2 : wrap64 (128 + (Int.tmod (n : Int) 128)) % 256 = ((n % 128 + 128 : Nat) : Int) := by rw [tmodp (Int.natCast_nonneg _), wrap_to (y := ((n % 128 + 128 : Nat) : Int)) (by omega) (by omega) (by omega)]; omega
      have e3 : intsOf xs ++ [((n % 128 + 128 : Nat) : Int)] = intsOf (xs ++ [n % 128 + 128]) := by simp [intsOf]
      rw [e1, e2, e3, vtl_big h]
      have e4 : xs ++ (n % 128 + 128) :: vtl (n / 128) = (xs ++ [n % 128 + 128]) ++ vtl (n / 128) := by simp
      rw [e4]
      exact ih (n / 128) (by omega) _ (by rw [List.length_append, List.length_singleton]; omega)
    · refine ev_else (by omega) ?_
      refine ev_if (by rw [hlen]; omega) ?_
      have e2 : (n : Int) % 256 = (n : Int) := by omega
      have e3 : intsOf xs ++ [(n : Int)] = intsOf (xs ++ [n]) := by simp [intsOf]
      rw [e2, e3, vtl_small (by omega)]
      exact ev_some rfl
theorem impl_varText_f (n : Nat) (h : n < 140737488355328) : Ev (fun k => impl_varText.f k (n : Int)) (strN (vtl n)) := by
  have := impl_varText_l0 n [] (by simpa using h)
  simpa [impl_varText.f, intsOf] using this
def varTextV (n : Int) : ByteArray × Bool := if 0 ≤ n ∧ n ≤ 1000000000 then (strN (vtl n.toNat), true) else (⟨#[]⟩, false)
theorem impl_VarText_f (n : Int) : Ev (fun k => impl_VarText.f k n) (varTextV n) := by
  unfold impl_VarText.f varTextV
  by_cases h0 : n < 0
  · rw [if_neg (by omega)]
    exact ev_if h0 (ev_some rfl)
  refine ev_else h0 ?_
  by_cases h1 : n > 1000000000
  · rw [if_neg (by omega)]
    exact ev_if h1 (ev_some rfl)
  refine ev_else h1 ?_
  rw [if_pos (by omega)]
  obtain ⟨m, rfl⟩ := Int.eq_ofNat_of_zero_le (a := n) (by omega)
  exact ev_bind (impl_varText_f m (by omega)) (ev_some rfl)
def shortTextV (s : ByteArray) : ByteArray × Bool := if s.size ≤ 20000 then (strN (vtl s.size) ++ s, true) else (⟨#[]⟩, false)
theorem impl_ShortText_f (s : ByteArray) : Ev (fun k => impl_ShortText.f k s) (shortTextV s) := by
  unfold impl_ShortText.f shortTextV
  by_cases h : (s.size : Int) > 20000
  · rw [if_neg (by omega)]
    exact ev_if h (ev_some rfl)
  · refine ev_else h ?_
    rw [if_pos (by omega)]
    refine ev_bind (impl_varText_f s.size (by omega)) ?_
    refine ev_if ?_ (ev_some rfl)
    have := vtl_len s.size
    rw [strN_size]; omega
/-! a number read -/
def rvL : Nat → List Nat → Nat → Nat → Nat → Option (Nat × Nat)
  | 0, _, _, _, _ => none
  | _ + 1, [], _, _, _ => none
  | f + 1, b :: bs, n, u, i =>
    if 128 ≤ b then rvL f bs (n + b % 128 * u) (u * 128) (i + 1)
    else if (b = 0 ∧ 0 < i) ∨ 1000000000 < n + b % 128 * u then none else some (n + b % 128 * u, i + 1)
def rvR (p : Int) (o : Option (Nat × Nat)) : Int × Int × Bool :=
  match o with
  | none => (0, 0, false)
  | some (n, c) => ((n : Int), p + (c : Int), true)
def rvV (s : ByteArray) (p : Int) : Int × Int × Bool :=
  if 0 ≤ p ∧ p ≤ (s.size : Int) then rvR p (rvL 5 ((natsOf s).drop p.toNat) 0 1 0) else (0, 0, false)
def valL : List Nat → Nat
  | [] => 0
  | b :: bs => b % 128 + 128 * valL bs
theorem valL_snoc (l : List Nat) (b : Nat) : valL (l ++ [b]) = valL l + b % 128 * 128 ^ l.length := by
  induction l with
  | nil => simp [valL]
  | cons x l ih =>
    simp only [List.cons_append, valL, ih, List.length_cons, Nat.pow_succ]
    rw [Nat.mul_add, ← Nat.add_assoc]
    congr 1
    rw [Nat.mul_comm 128, Nat.mul_assoc]
theorem valL_pos (l : List Nat) (b : Nat) (hb : 0 < b) (hb' : b < 128) : 0 < valL (l ++ [b]) := by
  induction l with
  | nil => simp [valL]; omega
  | cons x l ih => simp only [List.cons_append, valL]; omega
theorem vtl_valL (b : Nat) (hb : b < 128) : ∀ (l : List Nat), (∀ x ∈ l, 128 ≤ x ∧ x < 256) → (b ≠ 0 ∨ l = []) → vtl (valL (l ++ [b])) = l ++ [b] := by
  intro l
  induction l with
  | nil =>
    intro _ _
    have : valL ([] ++ [b]) = b := by simp [valL]; omega
    rw [this, vtl_small (by omega)]
    rfl
  | cons x l ih =>
    intro hl h0
    have hb0 : b ≠ 0 := by rcases h0 with h | h; exact h; cases h
    have hp := valL_pos l b (by omega) hb
    have hx := hl x (List.mem_cons_self ..)
    have e : valL (x :: l ++ [b]) = x % 128 + 128 * valL (l ++ [b]) := rfl
    rw [e, vtl_big (by omega)]
    have e1 : (x % 128 + 128 * valL (l ++ [b])) % 128 + 128 = x := by omega
    have e2 : (x % 128 + 128 * valL (l ++ [b])) / 128 = valL (l ++ [b]) := by omega
    rw [e1, e2, ih (fun y hy => hl y (List.mem_cons_of_mem _ hy)) (.inl hb0)]
    rfl
theorem vtl_ne_nil (n : Nat) : vtl n ≠ [] := by
  by_cases h : 127 < n
  · rw [vtl_big h]; simp
  · rw [vtl_small (by omega)]; simp
theorem vtl_last : ∀ (n : Nat), 1 ≤ n → ∀ l, vtl n ≠ l ++ [0] := by
  intro n
  induction n using Nat.strongRecOn with
  | ind n ih =>
    intro hn l h
    by_cases hb : 127 < n
    · rw [vtl_big hb] at h
      cases l with
      | nil =>
        have : vtl (n / 128) = [] := (List.cons.inj h).2
        exact vtl_ne_nil _ this
      | cons y l => exact ih (n / 128) (by omega) (by omega) l (List.cons.inj h).2
    · rw [vtl_small (by omega)] at h
      cases l with
      | nil => have := (List.cons.inj h).1; omega
      | cons y l => have := (List.cons.inj h).2; cases l <;> cases this
theorem vtl_last2 (n : Nat) (l : List Nat) (hl : l ≠ []) : vtl n ≠ l ++ [0] := by
  intro h
  by_cases hn : 1 ≤ n
  · exact vtl_last n hn l h
  · rw [vtl_small (by omega)] at h
    cases l with
    | nil => exact hl rfl
    | cons y l => have := (List.cons.inj h).2; cases l <;> cases this
theorem pow128 {i : Nat} (h : i ≤ 4) : 128 ^ i ≤ 268435456 := Nat.le_trans (Nat.pow_le_pow_right (by omega) h) (by decide)
set_option maxHeartbeats 2000000 in
theorem impl_ReadVar_l0 (s : ByteArray) (hs : s.size ≤ 140737488355328) (p : Nat) (hp : p ≤ s.size) : ∀ (f i n u : Nat), i + f = 5 → u = 128 ^ i → n < u →
    Ev (fun k => impl_ReadVar.l0 k s (p : Int) (n : Int) (u : Int) (i : Int)) (rvR (p : Int) (rvL f ((natsOf s).drop (p + i)) n u i)) := by
  intro f
  induction f with
  | zero =>
    intro i n u hi hu hn
    refine ev_succ ?_
    simp only [impl_ReadVar.l0]
    refine ev_else (by omega) ?_
    refine ev_succ ?_
    simp only [impl_ReadVar.j2]
    exact ev_else (by simp) (ev_some rfl)
  | succ f ih =>
    intro i n u hi hu hn
    have hub : u ≤ 268435456 := by rw [hu]; exact pow128 (by omega)
    refine ev_succ ?_
    simp only [impl_ReadVar.l0]
    refine ev_if (by omega) ?_
    have ep : wrap64 ((p : Int) + (i : Int)) = ((p + i : Nat) : Int) := wrap_to (by omega) (by omega) (by omega)
    rw [ep]
    refine ev_succ ?_
    simp only [impl_ReadVar.j2]
    by_cases hlt : p + i < s.size
    · refine ev_if (by simp; omega) ?_
      rw [ep]
      refine ev_if (by omega) ?_
      refine ev_if (by omega) ?_
      have hbb : (s[p + i]'hlt).toNat < 256 := UInt8.toNat_lt _
      rw [bt_nat s (p + i) hlt, natsOf_drop s (p + i) hlt]
      generalize (s[p + i]'hlt).toNat = b at hbb ⊢
      have hm : b % 128 * u ≤ 127 * u := Nat.mul_le_mul_right _ (by omega)
      obtain ⟨e1, e2, e3, e4, e5, e6⟩ :
          wrap64 (b : Int) = (b : Int) ∧
          wrap64 (Int.tmod (b : Int) 128 * (u : Int)) = ((b % 128 * u : Nat) : Int) ∧
          wrap64 ((n : Int) + ((b % 128 * u : Nat) : Int)) = ((n + b % 128 * u : Nat) : Int) ∧
          wrap64 ((u : Int) * 128) = ((u * 128 : Nat) : Int) ∧
          wrap64 ((i : Int) + 1) = ((i + 1 : Nat) : Int) ∧
          wrap64 (((p + i : Nat) : Int) + 1) = (p : Int) + ((i + 1 : Nat) : Int) := by
        refine ⟨?_, ?_, ?_, ?_, ?_, ?_⟩
        · exact wid (by omega) (by omega)
        · have hb1 : Int.tmod (b : Int) 128 = ((b % 128 : Nat) : Int) := by rw [tmodp (Int.natCast_nonneg _)]; omega
          rw [hb1, ← Int.natCast_mul]
          exact wid (by omega) (by omega)
        · exact wrap_to (by omega) (by omega) (by omega)
        · exact wrap_to (by omega) (by omega) (by omega)
        · exact wrap_to (by omega) (by omega) (by omega)
        · exact wrap_to (by omega) (by omega) (by omega)
      rw [e1, e2, e3, e4, e5, e6]
      clear e1 e2 e3 e4 e5 e6
      unfold rvL
      by_cases hge : 128 ≤ b
      · refine ev_if (by omega) ?_
        rw [if_pos hge]
        have := ih (i + 1) (n + b % 128 * u) (u * 128) (by omega) (by rw [hu, Nat.pow_succ]) (by omega)
        exact this
      · refine ev_else (by omega) ?_
        rw [if_neg hge]
        by_cases hb0 : b = 0
        · refine ev_if (by omega) ?_
          by_cases hi0 : 0 < i
          · rw [if_pos (show (b = 0 ∧ 0 < i) ∨ 1000000000 < n + b % 128 * u from .inl ⟨hb0, hi0⟩)]
            exact ev_if (by omega) (ev_some rfl)
          · refine ev_else (by omega) ?_
            by_cases hmax : 1000000000 < n + b % 128 * u
            · rw [if_pos (show (b = 0 ∧ 0 < i) ∨ 1000000000 < n + b % 128 * u from .inr hmax)]
              exact ev_if (by omega) (ev_some rfl)
            · rw [if_neg (show ¬ ((b = 0 ∧ 0 < i) ∨ 1000000000 < n + b % 128 * u) by omega)]
              exact ev_else (by omega) (ev_some rfl)
        · refine ev_else (by omega) ?_
          by_cases hmax : 1000000000 < n + b % 128 * u
          · rw [if_pos (show (b = 0 ∧ 0 < i) ∨ 1000000000 < n + b % 128 * u from .inr hmax)]
            exact ev_if (by omega) (ev_some rfl)
          · rw [if_neg (show ¬ ((b = 0 ∧ 0 < i) ∨ 1000000000 < n + b % 128 * u) by omega)]
            exact ev_else (by omega) (ev_some rfl)
    · refine ev_else (by simp; omega) ?_
      have : (natsOf s).drop (p + i) = [] := List.drop_eq_nil_of_le (by rw [natsOf_length]; omega)
      rw [this]
      exact ev_some rfl
theorem impl_ReadVar_f (s : ByteArray) (hs : s.size ≤ 140737488355328) (p : Int) : Ev (fun k => impl_ReadVar.f k s p) (rvV s p) := by
  unfold impl_ReadVar.f rvV
  by_cases h0 : p < 0
  · rw [if_neg (by omega)]
    refine ev_if h0 (ev_succ ?_)
    simp only [impl_ReadVar.j0]
    exact ev_if (by simp) (ev_some rfl)
  · refine ev_else h0 (ev_succ ?_)
    simp only [impl_ReadVar.j0]
    by_cases h1 : p > (s.size : Int)
    · rw [if_neg (by omega)]
      exact ev_if (by simpa using h1) (ev_some rfl)
    · refine ev_else (by simpa using h1) ?_
      rw [if_pos (by omega)]
      obtain ⟨q, rfl⟩ := Int.eq_ofNat_of_zero_le (a := p) (by omega)
      exact impl_ReadVar_l0 s hs q (by omega) 5 0 0 1 (by omega) (by simp) (by omega)
def readShortV (s : ByteArray) (p : Int) : ByteArray × Int × Bool :=
  if (rvV s p).2.2 = true ∧ (rvV s p).1 ≤ 20000 ∧ (rvV s p).1 ≤ (s.size : Int) - (rvV s p).2.1 then
    (s.extract (rvV s p).2.1.toNat ((rvV s p).2.1 + (rvV s p).1).toNat, (rvV s p).2.1 + (rvV s p).1, true)
  else (⟨#[]⟩, 0, false)
theorem rvL_bound : ∀ (f : Nat) (l : List Nat) (n u i : Nat) (m c : Nat), rvL f l n u i = some (m, c) → m ≤ 1000000000 ∧ c ≤ i + l.length
  | 0, _, _, _, _, _, _, h => by simp [rvL] at h
  | f + 1, [], _, _, _, _, _, h => by simp [rvL] at h
  | f + 1, b :: bs, n, u, i, m, c, h => by
    unfold rvL at h
    by_cases hge : 128 ≤ b
    · rw [if_pos hge] at h
      have := rvL_bound f bs _ _ _ m c h
      rw [List.length_cons]; omega
    · rw [if_neg hge] at h
      by_cases hc : (b = 0 ∧ 0 < i) ∨ 1000000000 < n + b % 128 * u
      · rw [if_pos hc] at h; cases h
      · rw [if_neg hc] at h
        have h' := Option.some.inj h
        have h1 := congrArg Prod.fst h'
        have h2 := congrArg Prod.snd h'
        simp only at h1 h2
        rw [List.length_cons]
        constructor
        · have : ¬ 1000000000 < n + b % 128 * u := fun hx => hc (.inr hx)
          omega
        · omega
theorem rvV_bound (s : ByteArray) (p : Int) : 0 ≤ (rvV s p).1 ∧ (rvV s p).1 ≤ 1000000000 ∧ 0 ≤ (rvV s p).2.1 ∧ (rvV s p).2.1 ≤ (s.size : Int) := by
  unfold rvV
  by_cases h : 0 ≤ p ∧ p ≤ (s.size : Int)
  · rw [if_pos h]
    cases hr : rvL 5 ((natsOf s).drop p.toNat) 0 1 0 with
    | none => simp only [rvR]; omega
    | some q =>
      obtain ⟨m, c⟩ := q
      have := rvL_bound _ _ _ _ _ _ _ hr
      rw [List.length_drop, natsOf_length] at this
      simp only [rvR]
      omega
  · rw [if_neg h]; simp only; omega
theorem impl_ReadShort_f (s : ByteArray) (hs : s.size ≤ 140737488351232) (p : Int) : Ev (fun k => impl_ReadShort.f k s p) (readShortV s p) := by
  unfold impl_ReadShort.f readShortV
  refine ev_bind (impl_ReadVar_f s (by omega) p) ?_
  have hb := rvV_bound s p
  generalize rvV s p = v at hb ⊢
  obtain ⟨n, q, b⟩ := v
  simp only at hb ⊢
  by_cases h1 : b = true
  · refine ev_if h1 ?_
    by_cases h2 : n > 20000
    · exact ev_if h2 (ev_some (congrArg some (if_neg (by omega)).symm))
    refine ev_else h2 ?_
    rw [wid (x := (s.size : Int) - q) (by omega) (by omega), wid (x := q + n) (by omega) (by omega)]
    by_cases h3 : n > (s.size : Int) - q
    · exact ev_if h3 (ev_some (congrArg some (if_neg (by omega)).symm))
    refine ev_else h3 (ev_if (by omega) (ev_if (by omega) (ev_if (by omega) ?_)))
    exact ev_some (congrArg some (if_pos ⟨h1, by omega, by omega⟩).symm)
  · exact ev_else h1 (ev_some (congrArg some (if_neg (fun hc => h1 hc.1)).symm))
theorem rvL_vtl : ∀ (f m : Nat) (rest : List Nat) (n u i : Nat), m < 128 ^ (f + 1) → n + m * u ≤ 1000000000 → (m ≠ 0 ∨ i = 0) → rvL (f + 1) (vtl m ++ rest) n u i = some (n + m * u, i + (vtl m).length) := by
  have small : ∀ (f m : Nat) (rest : List Nat) (n u i : Nat), m ≤ 127 → n + m * u ≤ 1000000000 → (m ≠ 0 ∨ i = 0) → rvL (f + 1) (vtl m ++ rest) n u i = some (n + m * u, i + (vtl m).length) := by
    intro f m rest n u i hm hn h0
    rw [vtl_small hm]
    simp only [List.singleton_append, rvL, List.length_singleton]
    have e : m % 128 = m := Nat.mod_eq_of_lt (by omega)
    rw [e, if_neg (by omega), if_neg (by omega)]
  intro f
  induction f with
  | zero =>
    intro m rest n u i hm hn h0
    exact small 0 m rest n u i (by omega) hn h0
  | succ f ih =>
    intro m rest n u i hm hn h0
    by_cases h : 127 < m
    · have hm2 : m * u = m % 128 * u + m / 128 * (u * 128) := by
        have e : m = m % 128 + 128 * (m / 128) := (Nat.mod_add_div m 128).symm
        have e2 : m * u = (m % 128 + 128 * (m / 128)) * u := congrArg (· * u) e
        rw [e2, Nat.add_mul, Nat.mul_comm 128 (m / 128), Nat.mul_assoc, Nat.mul_comm 128 u]
      rw [vtl_big h]
      have e1 : (m % 128 + 128) % 128 = m % 128 := by omega
      simp only [List.cons_append, rvL, e1, List.length_cons]
      rw [if_pos (by omega), ih (m / 128) rest (n + m % 128 * u) (u * 128) (i + 1) (by rw [Nat.pow_succ] at hm; omega) (by rw [hm2] at hn; omega) (by omega)]
      rw [hm2]
      congr 2
      · omega
      · omega
    · exact small (f + 1) m rest n u i (by omega) hn h0
theorem toNat_natR (i : Nat) : ((i : Int)).toNat = i := rfl
theorem rvV_round (a b : ByteArray) (m : Nat) (h : m ≤ 1000000000) : rvV (a ++ strN (vtl m) ++ b) (a.size : Int) = ((m : Int), (a.size : Int) + ((vtl m).length : Int), true) := by
  unfold rvV
  have hz : (a ++ strN (vtl m) ++ b).size = a.size + (vtl m).length + b.size := by simp [ByteArray.size_append, strN_size]
  rw [if_pos (by omega), natsOf_append, natsOf_append, natsOf_strN _ (vtl_lt m)]
  have e : ((natsOf a ++ vtl m) ++ natsOf b).drop ((a.size : Int)).toNat = vtl m ++ natsOf b := by
    rw [toNat_natR, List.append_assoc, List.drop_left' (natsOf_length a)]
  rw [e, rvL_vtl 4 m (natsOf b) 0 1 0 (by omega) (by omega) (Or.inr rfl)]
  simp [rvR]
theorem readShort_round (t : ByteArray) (h : t.size ≤ 20000) : readShortV (strN (vtl t.size) ++ t) 0 = (t, ((strN (vtl t.size) ++ t).size : Int), true) := by
  have hr := rvV_round ⟨#[]⟩ t t.size (by omega)
  have e0 : (⟨#[]⟩ : ByteArray) ++ strN (vtl t.size) = strN (vtl t.size) := natsOf_inj (by rw [natsOf_append]; rfl)
  have ez : ((⟨#[]⟩ : ByteArray).size : Int) = 0 := rfl
  rw [e0, ez] at hr
  have hz : (strN (vtl t.size) ++ t).size = (vtl t.size).length + t.size := by simp [ByteArray.size_append, strN_size]
  unfold readShortV
  rw [hr]
  simp only
  rw [if_pos ⟨trivial, by omega, by omega⟩, hz]
  congr 1
  · apply natsOf_inj
    rw [natsOf_extract, natsOf_append, natsOf_strN _ (vtl_lt _)]
    have e1 : (0 + ((vtl t.size).length : Int)).toNat = (vtl t.size).length := by omega
    have e2 : (0 + ((vtl t.size).length : Int) + (t.size : Int)).toNat = (vtl t.size).length + t.size := by omega
    rw [e1, e2, List.take_of_length_le (by rw [List.length_append, natsOf_length]; omega), List.drop_left' rfl]
  · congr 1
    omega
theorem bt_drop (s : ByteArray) (i a : Nat) (l : List Nat) (h : (natsOf s).drop i = a :: l) : i < s.size ∧ bt s (i : Int) = (a : Int) ∧ (natsOf s).drop (i + 1) = l := by
  have hl : i < s.size := by
    rcases Nat.lt_or_ge i s.size with h1 | h1
    · exact h1
    · rw [List.drop_eq_nil_of_le (by rw [natsOf_length]; exact h1)] at h; cases h
  rw [natsOf_drop s i hl] at h
  injection h with h1 h2
  exact ⟨hl, by rw [bt_nat s i hl, h1], h2⟩
def valN (l : List Nat) (a : Int) : Int := l.foldl (fun (a : Int) (b : Nat) => a * 10 + ((b : Int) - 48)) a
def digN (u : Nat) : List Nat := (Lib.decDigits u).map UInt8.toNat
theorem ofNat48 (d : Nat) (h : d < 10) : (UInt8.ofNat (48 + d)).toNat = 48 + d := by
  have : ∀ e : Fin 10, (UInt8.ofNat (48 + e.val)).toNat = 48 + e.val := by decide
  exact this ⟨d, h⟩
theorem digN_small {u : Nat} (h : u < 10) : digN u = [48 + u] := by
  unfold digN
  rw [Lib.decDigits_one h, List.map_singleton, ofNat48 u h]
theorem digN_big {u : Nat} (h : ¬ u < 10) : digN u = digN (u / 10) ++ [48 + u % 10] := by
  unfold digN
  rw [Lib.decDigits, dif_neg h, List.map_append, List.map_singleton, ofNat48 _ (Nat.mod_lt _ (by omega))]
theorem digN_all (u : Nat) : valN (digN u) 0 = (u : Int) ∧ (∀ b ∈ digN u, 48 ≤ b ∧ b ≤ 57) ∧ 1 ≤ (digN u).length := by
  induction u using Nat.strongRecOn with
  | ind u ih =>
    by_cases h : u < 10
    · rw [digN_small h]
      refine ⟨?_, ?_, ?_⟩
      · simp [valN]; omega
      · intro b hb
        obtain rfl := List.mem_singleton.1 hb
        omega
      · simp
    · obtain ⟨h1, h2, h3⟩ := ih (u / 10) (by omega)
      rw [digN_big h]
      refine ⟨?_, ?_, ?_⟩
      · unfold valN at h1 ⊢
        rw [List.foldl_append, h1]
        simp only [List.foldl_cons, List.foldl_nil]
        omega
      · intro b hb
        rcases List.mem_append.1 hb with hb | hb
        · exact h2 b hb
        · obtain rfl := List.mem_singleton.1 hb
          omega
      · rw [List.length_append]; omega
theorem digN_len : ∀ (k u : Nat), u < 10 ^ (k + 1) → (digN u).length ≤ k + 1 := by
  intro k
  induction k with
  | zero => intro u h; rw [digN_small (by omega)]; simp
  | succ k ih =>
    intro u h
    by_cases h10 : u < 10
    · rw [digN_small h10]; simp
    · rw [digN_big h10, List.length_append, List.length_singleton]
      have := ih (u / 10) (by rw [Nat.pow_succ] at h; omega)
      omega
theorem pow_le10 : ∀ (i : Nat), i ≤ 10 → (10 : Int) ^ i ≤ 10000000000 := by
  intro i hi
  have : ∀ j : Fin 11, (10 : Int) ^ (j : Nat) ≤ 10000000000 := by decide
  exact this ⟨i, by omega⟩
def rdR (x : ByteArray) (v : Int) : Int × Bool := if v > 1000000000 then (0, false) else if (⟨(Lib.itoa v).toArray⟩ : ByteArray).toList = x.toList then (v, true) else (0, false)
theorem impl_ReadDecimal_l0 (x : ByteArray) (hx : x.size ≤ 10) : ∀ (l : List Nat) (i : Nat) (a : Int), (natsOf x).drop i = l → (∀ b ∈ l, 48 ≤ b ∧ b ≤ 57) → 0 ≤ a → a < 10 ^ i → i ≤ x.size →
    Ev (fun k => impl_ReadDecimal.l0 k x a (i : Int)) (rdR x (valN l a)) := by
  intro l
  induction l with
  | nil =>
    intro i a hl _ h0 h1 hi
    have hend : ¬ (i : Int) < (x.size : Int) := by
      have := congrArg List.length hl
      rw [List.length_drop, natsOf_length] at this
      simp at this
      omega
    have hb := pow_le10 i (by omega)
    show Ev (fun k => impl_ReadDecimal.l0 k x a (i : Int)) (rdR x a)
    refine ev_succ ?_
    simp only [impl_ReadDecimal.l0]
    refine ev_else hend ?_
    by_cases hbig : a > 1000000000
    · rw [show rdR x a = (0, false) from if_pos hbig]; exact ev_if hbig (ev_some rfl)
    · rw [show rdR x a = if (⟨(Lib.itoa a).toArray⟩ : ByteArray).toList = x.toList then (a, true) else (0, false) from if_neg hbig]
      refine ev_else hbig (ev_bind0 (show impl_Decimal.f a = some ⟨(Lib.itoa a).toArray⟩ from if_pos ⟨by omega, by omega⟩) (ev_some ?_))
      by_cases he : (⟨(Lib.itoa a).toArray⟩ : ByteArray).toList = x.toList
      · rw [if_pos he, if_pos he]
      · rw [if_neg he, if_neg he]
  | cons b l ih =>
    intro i a hl hd h0 h1 hi
    obtain ⟨hlt, hb, hdr⟩ := bt_drop x i b l hl
    have hd0 := hd b (List.mem_cons_self ..)
    have hp := pow_le10 i (by omega)
    have hi1 : wrap64 ((i : Int) + 1) = ((i + 1 : Nat) : Int) := wrap_to (by omega) (by omega) (by omega)
    have hpw : (10 : Int) ^ (i + 1) = 10 ^ i * 10 := Int.pow_succ 10 i
    obtain ⟨p, hpp⟩ : ∃ p, p = (10 : Int) ^ i := ⟨_, rfl⟩
    rw [← hpp] at h1 hp hpw
    have step := ih (i + 1) (a * 10 + ((b : Int) - 48)) hdr (fun c hc => hd c (List.mem_cons_of_mem _ hc)) (by omega) (by rw [hpw]; omega) (by omega)
    show Ev (fun k => impl_ReadDecimal.l0 k x a (i : Int)) (rdR x (valN l (a * 10 + ((b : Int) - 48))))
    refine ev_succ ?_
    simp only [impl_ReadDecimal.l0]
    have e : wrap64 (wrap64 (a * 10) + ((b : Int) - 48) % 256) = a * 10 + ((b : Int) - 48) := by
      rw [wid (x := a * 10) (by omega) (by omega)]
      exact wrap_to (by omega) (by omega) (by omega)
    rw [hb]
    refine ev_if (by omega) (ev_if (by omega) (ev_else (by omega) (ev_else (by omega) ?_)))
    rw [e, hi1]
    exact step
theorem decimal_round (u : Nat) (h : u ≤ 1000000000) : Ev (fun k => impl_ReadDecimal.f k ⟨(Lib.itoa (u : Int)).toArray⟩) ((u : Int), true) := by
  obtain ⟨h1, h2, h3⟩ := digN_all u
  have hl := digN_len 9 u (by omega)
  have hn : natsOf ⟨(Lib.itoa (u : Int)).toArray⟩ = digN u := by
    unfold natsOf digN
    rw [Lib.itoa_nonneg]
  have hz : (⟨(Lib.itoa (u : Int)).toArray⟩ : ByteArray).size = (digN u).length := by rw [← hn, natsOf_length]
  have step := impl_ReadDecimal_l0 ⟨(Lib.itoa (u : Int)).toArray⟩ (by omega) (digN u) 0 0 (by rw [List.drop_zero, hn]) h2 (by omega) (by decide) (by omega)
  rw [h1] at step
  have e : rdR ⟨(Lib.itoa (u : Int)).toArray⟩ (u : Int) = ((u : Int), true) := by
    unfold rdR
    rw [if_neg (by omega), if_pos rfl]
  rw [e] at step
  unfold impl_ReadDecimal.f
  refine ev_else (by omega) (ev_succ ?_)
  simp only [impl_ReadDecimal.j0]
  exact ev_else (by simp; omega) step
def hexD : ByteArray := ⟨#[48, 49, 50, 51, 52, 53, 54, 55, 56, 57, 97, 98, 99, 100, 101, 102]⟩
def hx (k : Nat) : Nat := (bt hexD (k : Int)).toNat
def hexN : List Nat → List Nat
  | [] => []
  | b :: l => hx (b / 16) :: hx (b % 16) :: hexN l
theorem hexN_len : ∀ l, (hexN l).length = 2 * l.length
  | [] => rfl
  | b :: l => by simp only [hexN, List.length_cons, hexN_len l]; omega
set_option maxRecDepth 100000 in
theorem hx_all : ∀ n : Fin 256, bt hexD (((n.val : Nat) : Int) / 16) = ((hx (n.val / 16) : Nat) : Int) ∧ bt hexD (Go.bits .and .u8 ((n.val : Nat) : Int) 15) = ((hx (n.val % 16) : Nat) : Int) ∧ 0 ≤ Go.bits .and .u8 ((n.val : Nat) : Int) 15 ∧ Go.bits .and .u8 ((n.val : Nat) : Int) 15 < 16
    ∧ hx (n.val / 16) < 256 ∧ hx (n.val % 16) < 256 := by decide +kernel
set_option maxRecDepth 100000 in
theorem unhx_all : ∀ n : Fin 256, strings_IndexByte.f hexD ((hx (n.val / 16) : Nat) : Int) = some ((n.val / 16 : Nat) : Int) ∧ strings_IndexByte.f hexD ((hx (n.val % 16) : Nat) : Int) = some ((n.val % 16 : Nat) : Int)
    ∧ (Go.bits .or .i64 (wrap64 (((n.val / 16 : Nat) : Int) * 16)) ((n.val % 16 : Nat) : Int)) % 256 = ((n.val : Nat) : Int) := by decide +kernel
theorem hexN_lt : ∀ (l : List Nat), (∀ b ∈ l, b < 256) → ∀ c ∈ hexN l, c < 256
  | [], _, c, hc => by cases hc
  | b :: l, h, c, hc => by
    simp only [hexN] at hc
    have hb := h b (List.mem_cons_self ..)
    obtain ⟨_, _, _, _, h5, h6⟩ := hx_all ⟨b, hb⟩
    simp only at h5 h6
    generalize hx (b / 16) = p at h5 hc
    generalize hx (b % 16) = q at h6 hc
    have ih := hexN_lt l (fun d hd => h d (List.mem_cons_of_mem _ hd)) c
    rcases List.mem_cons.1 hc with e | hc
    · omega
    · rcases List.mem_cons.1 hc with e | hc
      · omega
      · exact ih hc
theorem impl_Hex_l0 (s : ByteArray) (hs : s.size ≤ 20000) : ∀ (l : List Nat) (i : Nat) (acc : List Int), (natsOf s).drop i = l → acc.length = 2 * i → i ≤ s.size →
    Ev (fun k => impl_Hex.l0 k s hexD acc (i : Int)) (strOfNums (acc ++ intsOf (hexN l)), true) := by
  intro l
  induction l with
  | nil =>
    intro i acc hl ha hi
    have hend : ¬ (i : Int) < (s.size : Int) := by
      have := congrArg List.length hl
      rw [List.length_drop, natsOf_length] at this
      simp at this
      omega
    refine ev_succ ?_
    simp only [impl_Hex.l0]
    refine ev_else hend (ev_some ?_)
    simp [hexN, intsOf]
  | cons b l ih =>
    intro i acc hl ha hi
    obtain ⟨hlt, hb, hdr⟩ := bt_drop s i b l hl
    have hb2 : b < 256 := natsOf_lt s b (List.mem_of_mem_drop (by rw [hl]; exact List.mem_cons_self ..))
    have step := ih (i + 1) (acc ++ [((hx (b / 16) : Nat) : Int), ((hx (b % 16) : Nat) : Int)]) hdr (by simp [ha]; omega) (by omega)
    have hD : (hexD.size : Int) = 16 := rfl
    have o1 : (i : Int) < (s.size : Int) := by omega
    have o2 : (0 : Int) ≤ (i : Int) := by omega
    have o3 : (0 : Int) ≤ (b : Int) / 16 := by omega
    have o4 : (b : Int) / 16 < (hexD.size : Int) := by rw [hD]; omega
    have o5 : ∀ x y : Int, acc.length + ([x, y] : List Int).length < 140737488355328 := by intro x y; simp [ha]; omega
    have o6 : (i : Int) + 1 = ((i + 1 : Nat) : Int) ∧ -9223372036854775808 ≤ ((i + 1 : Nat) : Int) ∧ ((i + 1 : Nat) : Int) ≤ 9223372036854775807 := by omega
    have hi1 : wrap64 ((i : Int) + 1) = ((i + 1 : Nat) : Int) := wrap_to o6.1 o6.2.1 o6.2.2
    obtain ⟨e1, e2, e3, e4, _, _⟩ := hx_all ⟨b, hb2⟩
    simp only at e1 e2 e3 e4
    refine ev_succ ?_
    simp only [impl_Hex.l0]
    rw [hb]
    refine ev_if o1 (ev_if o2 (ev_if o3 (ev_if o4 (ev_if e3 (ev_if (by rw [hD]; exact e4) (ev_bind0 rfl (ev_if (o5 _ _) ?_)))))))
    rw [hi1, e1, e2]
    refine ev_eq step ?_
    simp [hexN, intsOf]
theorem impl_Hex_f (s : ByteArray) (hs : s.size ≤ 20000) : Ev (fun k => impl_Hex.f k s) (strN (hexN (natsOf s)), true) := by
  unfold impl_Hex.f
  have step := impl_Hex_l0 s hs (natsOf s) 0 [] rfl rfl (by omega)
  refine ev_else (by omega) ?_
  rw [wid (x := 2 * (s.size : Int)) (by omega) (by omega)]
  refine ev_if (by omega) (ev_if (by omega) ?_)
  exact step
theorem impl_Unhex_l0 (s : ByteArray) (hs : s.size ≤ 40000) : ∀ (l : List Nat) (i : Nat) (acc : List Int), (natsOf s).drop i = hexN l → (∀ b ∈ l, b < 256) → acc.length ≤ i → i ≤ s.size →
    Ev (fun k => impl_Unhex.l0 k s acc (i : Int)) (strOfNums (acc ++ intsOf l), true) := by
  intro l
  induction l with
  | nil =>
    intro i acc hl _ ha hi
    have hend : ¬ (i : Int) < (s.size : Int) := by
      have := congrArg List.length hl
      rw [List.length_drop, natsOf_length] at this
      simp [hexN] at this
      omega
    refine ev_succ ?_
    simp only [impl_Unhex.l0]
    refine ev_else hend (ev_some ?_)
    simp [intsOf]
  | cons b l ih =>
    intro i acc hl hlt ha hi
    obtain ⟨h1, hb, hdr⟩ := bt_drop s i _ _ hl
    obtain ⟨h1', hb', hdr'⟩ := bt_drop s (i + 1) _ _ hdr
    have hb2 := hlt b (List.mem_cons_self ..)
    have hdr2 : (natsOf s).drop (i + 2) = hexN l := by rw [show i + 2 = i + 1 + 1 from rfl]; exact hdr'
    have hlen : (acc ++ [(b : Int)]).length ≤ i + 2 := by rw [List.length_append, List.length_singleton]; omega
    have step := ih (i + 2) (acc ++ [(b : Int)]) hdr2 (fun c hc => hlt c (List.mem_cons_of_mem _ hc)) hlen (by omega)
    have o1 : (i : Int) < (s.size : Int) := by omega
    have o2 : (0 : Int) ≤ (i : Int) := by omega
    have o3 : ((i + 1 : Nat) : Int) < (s.size : Int) := by omega
    have o4 : (0 : Int) ≤ ((i + 1 : Nat) : Int) := by omega
    have o5 : acc.length < 140737488355328 := by omega
    have o6 : ¬ ((b / 16 : Nat) : Int) < 0 := by omega
    have o7 : ¬ ((b % 16 : Nat) : Int) < 0 := by omega
    have q1 : (i : Int) + 1 = ((i + 1 : Nat) : Int) ∧ -9223372036854775808 ≤ ((i + 1 : Nat) : Int) ∧ ((i + 1 : Nat) : Int) ≤ 9223372036854775807 := by omega
    have q2 : (i : Int) + 2 = ((i + 2 : Nat) : Int) ∧ -9223372036854775808 ≤ ((i + 2 : Nat) : Int) ∧ ((i + 2 : Nat) : Int) ≤ 9223372036854775807 := by omega
    have hi1 : wrap64 ((i : Int) + 1) = ((i + 1 : Nat) : Int) := wrap_to q1.1 q1.2.1 q1.2.2
    have hi2 : wrap64 ((i : Int) + 2) = ((i + 2 : Nat) : Int) := wrap_to q2.1 q2.2.1 q2.2.2
    obtain ⟨e1, e2, e3⟩ := unhx_all ⟨b, hb2⟩
    simp only at e1 e2 e3
    refine ev_succ ?_
    simp only [impl_Unhex.l0, hi1, hi2, hb, hb']
    refine ev_if o1 (ev_if o2 (ev_bind0 e1 (ev_if o4 (ev_if o3 (ev_bind0 e2 (ev_else o6 (ev_else o7 (ev_if o5 ?_))))))))
    rw [e3]
    refine ev_eq step ?_
    simp [intsOf]
theorem impl_Unhex_f (l : List Nat) (hl : ∀ b ∈ l, b < 256) (hs : l.length ≤ 20000) : Ev (fun k => impl_Unhex.f k (strN (hexN l))) (strN l, true) := by
  have hz : (strN (hexN l)).size = 2 * l.length := by rw [strN_size, hexN_len]
  have hn : natsOf (strN (hexN l)) = hexN l := natsOf_strN _ (hexN_lt l hl)
  have step := impl_Unhex_l0 (strN (hexN l)) (by omega) l 0 [] (by rw [List.drop_zero, hn]) hl (by simp) (by omega)
  unfold impl_Unhex.f
  refine ev_if (by omega) (ev_succ ?_)
  simp only [impl_Unhex.j0]
  rw [wid (x := ((strN (hexN l)).size : Int) / 2) (by omega) (by omega)]
  refine ev_else (by simp; omega) (ev_if (by omega) (ev_if (by omega) ?_))
  exact step
theorem drop_getD {α : Type} (l : List α) (d : α) (i : Nat) (h : i < l.length) : l.drop i = l.getD i d :: l.drop (i + 1) := by
  rw [List.drop_eq_getElem_cons h, List.getD_eq_getElem?_getD, List.getElem?_eq_getElem h]
  rfl
theorem drop_end {α : Type} (l : List α) (i : Nat) (h : l.length ≤ i) : l.drop i = [] := List.drop_eq_nil_of_le h
theorem rd_nat (l : List Int) (i : Nat) : rd l (i : Int) = l.getD i 0 := rfl
theorem copy_step {α : Type} (l : List α) (d z : α) (i : Nat) (h : i < l.length) :
    (l.take i ++ List.replicate (l.length - i) z).set i (l.getD i d) = l.take (i + 1) ++ List.replicate (l.length - (i + 1)) z := by
  have h1 : (l.take i).length = i := by rw [List.length_take]; omega
  rw [List.set_append_right _ _ (by omega), h1, Nat.sub_self]
  have h2 : l.length - i = (l.length - (i + 1)) + 1 := by omega
  rw [h2, List.replicate_succ, List.set_cons_zero, List.take_succ_eq_append_getElem h, List.append_assoc]
  congr 1
  rw [List.getD_eq_getElem?_getD, List.getElem?_eq_getElem h]
  rfl
theorem copy_len {α : Type} (l : List α) (z : α) (i : Nat) (h : i ≤ l.length) : (l.take i ++ List.replicate (l.length - i) z).length = l.length := by
  rw [List.length_append, List.length_take, List.length_replicate]; omega
theorem toNat_nat (i : Nat) : ((i : Int)).toNat = i := rfl
theorem succ_i (i : Nat) (h : i ≤ 9223372036854775806) : wrap64 ((i : Int) + 1) = ((i + 1 : Nat) : Int) := wrap_to (by omega) (by omega) (by omega)
theorem pred_i (i : Nat) (h : 0 < i) (h' : i ≤ 9223372036854775806) : wrap64 ((i : Int) - 1) = ((i - 1 : Nat) : Int) := wrap_to (by omega) (by omega) (by omega)
/-! drawn numbers: only their ranges matter -/
theorem and255 (x : Int) : 0 ≤ Go.bits .and .i64 x 255 ∧ Go.bits .and .i64 x 255 ≤ 255 := by
  have h : ((BitVec.ofInt 64 x) &&& (BitVec.ofInt 64 255)).toNat ≤ 255 := by
    rw [BitVec.toNat_and]
    exact Nat.le_trans Nat.and_le_right (show (BitVec.ofInt 64 255).toNat ≤ 255 by decide)
  have e : Go.bits .and .i64 x 255 = IntKind.i64.wrap ((((BitVec.ofInt 64 x) &&& (BitVec.ofInt 64 255)).toNat : Nat) : Int) := rfl
  rw [e, IntKind.wrap_i64]
  omega
theorem spec_l01New_l0 (l : List Int) (hl : l.length ≤ 4611686018427387904) : ∀ (d i : Nat) (h : Int), i + d = l.length → ∃ h', Ev (fun k => spec_l01New.l0 k l h (i : Int)) (l, 0, h') := by
  intro d
  induction d with
  | zero =>
    intro i h hi
    refine ⟨h, ev_succ ?_⟩
    simp only [spec_l01New.l0]
    exact ev_else (by omega) (ev_some rfl)
  | succ d ih =>
    intro i h hi
    by_cases h4 : (i : Int) < 4000
    · obtain ⟨h', hh⟩ := ih (i + 1) (Go.bits .and .i64 (wrap64 ((wrap64 ((wrap64 (h * 131)) + (wrap64 (rd l (i : Int))))) + 7)) 1073741823) (by omega)
      refine ⟨h', ev_succ ?_⟩
      simp only [spec_l01New.l0]
      refine ev_if (by omega) (ev_if h4 (ev_if (by omega) ?_))
      rw [succ_i i (by omega)]
      exact hh
    · refine ⟨h, ev_succ ?_⟩
      simp only [spec_l01New.l0]
      exact ev_if (by omega) (ev_else h4 (ev_some rfl))
theorem spec_l01New_f (l : List Int) (hl : l.length ≤ 4611686018427387904) : ∃ h, Ev (fun k => spec_l01New.f k l) (l, 0, h) := by
  unfold spec_l01New.f
  exact spec_l01New_l0 l hl l.length 0 _ (by omega)
/-- what a draw gives: a number that q tells of, and a cursor that is right -/
def Drew (o : Option (Int × Int × Int)) (q : Int → Prop) : Prop := ∃ r i h, o = some (r, i, h) ∧ q r ∧ 0 ≤ i
theorem spec_l01Byte_f (l : List Int) (i h : Int) (hl : l.length ≤ 4611686018427387904) (hi : 0 ≤ i) : Drew (spec_l01Byte.f l i h) (fun r => 0 ≤ r ∧ r ≤ 255) := by
  unfold spec_l01Byte.f Drew
  by_cases h1 : i < (l.length : Int)
  · rw [if_pos h1, if_pos hi]
    refine ⟨_, _, _, rfl, and255 _, ?_⟩
    rw [wid (x := i + 1) (by omega) (by omega)]
    omega
  · rw [if_neg h1]
    exact ⟨_, _, _, rfl, and255 _, hi⟩
theorem spec_l01Below_f (l : List Int) (i h n : Int) (hl : l.length ≤ 4611686018427387904) (hi : 0 ≤ i) (hn : 0 < n) : Drew (spec_l01Below.f l i h n) (fun r => 0 ≤ r ∧ r < n) := by
  unfold spec_l01Below.f
  rw [if_neg (by omega)]
  by_cases h1 : n ≤ 256
  · rw [if_pos h1]
    obtain ⟨r, i', h', e, hr, hi'⟩ := spec_l01Byte_f l i h hl hi
    rw [e]
    simp only [Option.bind_some]
    rw [if_neg (by omega)]
    refine ⟨_, _, _, rfl, ?_, hi'⟩
    rw [tmodp (a := r) hr.1]
    have := Int.emod_lt_of_pos r hn
    have := Int.emod_nonneg r (show n ≠ 0 by omega)
    omega
  · rw [if_neg h1]
    obtain ⟨r1, i1, h1', e1, hr1, hi1⟩ := spec_l01Byte_f l i h hl hi
    obtain ⟨r2, i2, h2', e2, hr2, hi2⟩ := spec_l01Byte_f l i1 h1' hl hi1
    obtain ⟨r3, i3, h3', e3, hr3, hi3⟩ := spec_l01Byte_f l i2 h2' hl hi2
    obtain ⟨r4, i4, h4', e4, hr4, hi4⟩ := spec_l01Byte_f l i3 h3' hl hi3
    rw [e1]; simp only [Option.bind_some]
    rw [e2]; simp only [Option.bind_some]
    rw [e3]; simp only [Option.bind_some]
    rw [e4]; simp only [Option.bind_some]
    rw [if_neg (by omega)]
    refine ⟨_, _, _, rfl, ?_, hi4⟩
    rw [wid (x := r1 * 16777216) (by omega) (by omega), wid (x := r2 * 65536) (by omega) (by omega), wid (x := r3 * 256) (by omega) (by omega), wid (x := r1 * 16777216 + r2 * 65536) (by omega) (by omega), wid (x := r1 * 16777216 + r2 * 65536 + r3 * 256) (by omega) (by omega), wid (x := r1 * 16777216 + r2 * 65536 + r3 * 256 + r4) (by omega) (by omega)]
    rw [tmodp (a := r1 * 16777216 + r2 * 65536 + r3 * 256 + r4) (by omega)]
    have := Int.emod_lt_of_pos (r1 * 16777216 + r2 * 65536 + r3 * 256 + r4) hn
    have := Int.emod_nonneg (r1 * 16777216 + r2 * 65536 + r3 * 256 + r4) (show n ≠ 0 by omega)
    omega
theorem strOfNums_size (l : List Int) : (strOfNums l).size = l.length := by simp [strOfNums, ByteArray.size]
theorem spec_l01Text_l0 (l : List Int) (hl : l.length ≤ 4611686018427387904) (n : Int) (hn : n ≤ 5000) : ∀ (d i : Nat) (acc : List Int) (p h : Int), (i : Int) + d = n → acc.length = i → 0 ≤ p →
    ∃ r p' h', Ev (fun k => spec_l01Text.l0 k n acc (i : Int) l p h) (r, p', h') ∧ r.size ≤ 5000 ∧ 0 ≤ p' := by
  intro d
  induction d with
  | zero =>
    intro i acc p h hi ha hp
    refine ⟨strOfNums acc, p, h, ev_succ ?_, ?_, hp⟩
    · simp only [spec_l01Text.l0]
      exact ev_else (by omega) (ev_some rfl)
    · rw [strOfNums_size]; omega
  | succ d ih =>
    intro i acc p h hi ha hp
    obtain ⟨r, p1, h1, e, hr, hp1⟩ := spec_l01Byte_f l p h hl hp
    obtain ⟨r', p2, h2, hev, hsz, hp2⟩ := ih (i + 1) (acc ++ [r % 256]) p1 h1 (by omega) (by simp [ha]) hp1
    refine ⟨r', p2, h2, ev_succ ?_, hsz, hp2⟩
    simp only [spec_l01Text.l0]
    refine ev_if (by omega) (ev_bind0 e (ev_if (by omega) ?_))
    rw [succ_i i (by omega)]
    exact hev
theorem spec_l01Text_f (l : List Int) (hl : l.length ≤ 4611686018427387904) (p h n : Int) (hp : 0 ≤ p) (hn : 0 ≤ n) :
    ∃ r p' h', Ev (fun k => spec_l01Text.f k l p h n) (r, p', h') ∧ r.size ≤ 5000 ∧ 0 ≤ p' := by
  unfold spec_l01Text.f
  by_cases h5 : n > 5000
  · obtain ⟨r, p', h', e, a, b⟩ := spec_l01Text_l0 l hl 5000 (by omega) 5000 0 [] p h (by omega) rfl hp
    refine ⟨r, p', h', ev_if h5 (ev_succ ?_), a, b⟩
    simp only [spec_l01Text.j0]
    exact e
  · obtain ⟨r, p', h', e, a, b⟩ := spec_l01Text_l0 l hl n (by omega) n.toNat 0 [] p h (by omega) rfl hp
    refine ⟨r, p', h', ev_else h5 (ev_succ ?_), a, b⟩
    simp only [spec_l01Text.j0]
    exact e
theorem spec_l01PickInt_f (l : List Int) (i h : Int) (m : List Int) (hl : l.length ≤ 4611686018427387904) (hi : 0 ≤ i) (hm : 0 < m.length) : Drew (spec_l01PickInt.f l i h m) (fun r => r ∈ m) := by
  unfold spec_l01PickInt.f
  obtain ⟨r, i', h', e, hr, hi'⟩ := spec_l01Below_f l i h (m.length : Int) hl hi (by omega)
  rw [e]
  simp only [Option.bind_some]
  rw [if_pos hr.1, if_pos hr.2]
  refine ⟨_, _, _, rfl, ?_, hi'⟩
  obtain ⟨n, rfl⟩ := Int.eq_ofNat_of_zero_le hr.1
  rw [rd_nat, List.getD_eq_getElem?_getD, List.getElem?_eq_getElem (by omega)]
  exact List.getElem_mem _
theorem spec_l01Number_f (l : List Int) (i h : Int) (hl : l.length ≤ 4611686018427387904) (hi : 0 ≤ i) : ∃ r i' h', spec_l01Number.f l i h = some (r, i', h') := by
  unfold spec_l01Number.f
  obtain ⟨a, i1, h1, e1, _, hi1⟩ := spec_l01Below_f l i h 4 hl hi (by omega)
  rw [e1]
  simp only [Option.bind_some]
  by_cases c0 : a = 0
  · rw [if_pos c0]
    obtain ⟨b, i2, h2, e2, _, _⟩ := spec_l01PickInt_f l i1 h1 [(-1), 0, 127, 128, 16383, 16384, 1000000000, 1000000001, 9223372036854775807, (-9223372036854775808)] hl hi1 (by simp)
    rw [e2]
    exact ⟨_, _, _, rfl⟩
  · rw [if_neg c0]
    by_cases c1 : a = 1
    · rw [if_pos c1]
      obtain ⟨b, i2, h2, e2, _, _⟩ := spec_l01Below_f l i1 h1 1000000000 hl hi1 (by omega)
      rw [e2]
      exact ⟨_, _, _, rfl⟩
    · rw [if_neg c1]
      obtain ⟨b, i2, h2, e2, _, _⟩ := spec_l01Below_f l i1 h1 400 hl hi1 (by omega)
      rw [e2]
      exact ⟨_, _, _, rfl⟩
theorem spec_DrawVarText_f (l : List Int) (hl : l.length ≤ 4611686018427387904) : ∃ r, Ev (fun k => spec_DrawVarText.f k l) r := by
  obtain ⟨h, e⟩ := spec_l01New_f l hl
  obtain ⟨r, i', h', e2⟩ := spec_l01Number_f l 0 h hl (by omega)
  refine ⟨r, ?_⟩
  unfold spec_DrawVarText.f
  exact ev_bind e (ev_bind0 e2 (ev_some rfl))
theorem spec_l01Long_l0 (n : Nat) (v : Int) (hn : n ≤ 281474976710656) : ∀ (d i : Nat) (acc : List Int), i + d = n → acc.length = n → ∃ r, Ev (fun k => spec_l01Long.l0 k (n : Int) v acc (i : Int)) r := by
  intro d
  induction d with
  | zero =>
    intro i acc hi ha
    refine ⟨strOfNums acc, ev_succ ?_⟩
    simp only [spec_l01Long.l0]
    exact ev_else (by omega) (ev_some rfl)
  | succ d ih =>
    intro i acc hi ha
    obtain ⟨r, e⟩ := ih (i + 1) (acc.set i v) (by omega) (by simpa using ha)
    refine ⟨r, ev_succ ?_⟩
    simp only [spec_l01Long.l0]
    refine ev_if (by omega) (ev_if (by omega) (ev_if (by omega) ?_))
    rw [succ_i i (by omega)]
    exact e
theorem spec_l01Long_f (n : Int) (v : Int) (h0 : 0 ≤ n) (hn : n ≤ 281474976710656) : ∃ r, Ev (fun k => spec_l01Long.f k n v) r := by
  obtain ⟨m, rfl⟩ := Int.eq_ofNat_of_zero_le h0
  obtain ⟨r, e⟩ := spec_l01Long_l0 m v (by omega) m 0 (List.replicate m 0) (by omega) (by simp)
  refine ⟨r, ?_⟩
  unfold spec_l01Long.f
  refine ev_if (by omega) (ev_if (by omega) ?_)
  exact e
theorem spec_DrawHex_f (l : List Int) (hl : l.length ≤ 4611686018427387904) : ∃ r, Ev (fun k => spec_DrawHex.f k l) r := by
  obtain ⟨h, e⟩ := spec_l01New_f l hl
  obtain ⟨b, i1, h1, e1, _, hi1⟩ := spec_l01Below_f l 0 h 60 hl (by omega) (by omega)
  have eo : spec_l01Once.f l 0 h 60 = some ((b == 0), i1, h1) := by
    unfold spec_l01Once.f
    rw [e1]; rfl
  unfold spec_DrawHex.f
  by_cases hb : (b == 0) = true
  · obtain ⟨c, i2, h2, e2, hc, _⟩ := spec_l01Below_f l i1 h1 2 hl hi1 (by omega)
    obtain ⟨r, er⟩ := spec_l01Long_f (wrap64 (20000 + c)) 200 (by rw [wid (x := 20000 + c) (by omega) (by omega)]; omega) (by rw [wid (x := 20000 + c) (by omega) (by omega)]; omega)
    exact ⟨r, ev_bind e (ev_bind0 eo (ev_if hb (ev_bind0 e2 (ev_bind er (ev_some rfl)))))⟩
  · obtain ⟨c, i2, h2, e2, hc, hi2⟩ := spec_l01Below_f l i1 h1 30 hl hi1 (by omega)
    obtain ⟨r, p', h', er, _, _⟩ := spec_l01Text_f l hl i2 h2 c hi2 hc.1
    exact ⟨r, ev_bind e (ev_bind0 eo (ev_else hb (ev_bind0 e2 (ev_bind er (ev_some rfl)))))⟩
theorem j2_all (n : Nat) (hn : n ≤ 1000000000) (t : ByteArray) (ht : t.size ≤ 300) :
    Ev (fun k => laws_FnNumbers.j2 k (n : Int) (strN (vtl n)) true (n : Int) (1 + ((vtl n).length : Int)) true (n : Int) true t) true := by
  refine ev_succ ?_
  simp only [laws_FnNumbers.j2]
  have hs := impl_ShortText_f t
  unfold shortTextV at hs
  rw [if_pos (by omega)] at hs
  have hl := vtl_len n
  have hl2 := vtl_len t.size
  have hz : (strN (vtl t.size) ++ t).size = (vtl t.size).length + t.size := by simp [ByteArray.size_append, strN_size]
  have hr := impl_ReadShort_f (strN (vtl t.size) ++ t) (by omega) 0
  rw [readShort_round t (by omega)] at hr
  have hu := impl_Unhex_f (natsOf t) (natsOf_lt t) (by rw [natsOf_length]; omega)
  rw [strN_natsOf] at hu
  refine ev_bind hs (ev_bind hr (ev_bind (impl_Hex_f t (by omega)) (ev_bind hu ?_)))
  have hw : wrap64 (((strN (vtl n)).size : Int) + 1) = 1 + ((vtl n).length : Int) := wrap_to (by rw [strN_size]; omega) (by omega) (by omega)
  simp only [if_true, if_pos hw.symm]
  exact ev_some (by simp)
theorem j1_all (l : List Int) (hl : l.length ≤ 4611686018427387904) (n : Nat) (hn : n ≤ 1000000000) : Ev (fun k => laws_FnNumbers.j1 k l (n : Int)) true := by
  refine ev_succ ?_
  simp only [laws_FnNumbers.j1]
  have hv := impl_VarText_f (n : Int)
  unfold varTextV at hv
  rw [if_pos (by omega)] at hv
  refine ev_bind hv ?_
  have hn' : ((n : Int)).toNat = n := rfl
  simp only [hn']
  have hlen := vtl_len n
  have hr := rvV_round ⟨#[120]⟩ ⟨#[121]⟩ n hn
  have hz0 : (⟨#[120]⟩ : ByteArray).size = 1 := rfl
  have hz1 : ((⟨#[120]⟩ : ByteArray) ++ strN (vtl n)).size = 1 + (vtl n).length := by rw [ByteArray.size_append, hz0, strN_size]
  have hz2 : ((⟨#[120]⟩ : ByteArray) ++ strN (vtl n) ++ (⟨#[121]⟩ : ByteArray)).size = 1 + (vtl n).length + 1 := by rw [ByteArray.size_append, hz1]; rfl
  have hrv := impl_ReadVar_f ((⟨#[120]⟩ : ByteArray) ++ strN (vtl n) ++ (⟨#[121]⟩ : ByteArray)) (by omega) 1
  have e1 : (((⟨#[120]⟩ : ByteArray).size : Nat) : Int) = 1 := rfl
  rw [e1] at hr
  rw [hr] at hrv
  refine ev_if (by rw [strN_size]; omega) (ev_if (by rw [hz1]; omega) (ev_bind hrv (ev_bind0 (if_pos ⟨by omega, by omega⟩) (ev_bind (decimal_round n hn) ?_))))
  obtain ⟨t, ht⟩ := spec_DrawHex_f l hl
  refine ev_bind ht ?_
  by_cases hbig : (t.size : Int) > 300
  · exact ev_if hbig (j2_all n hn ⟨#[97, 98, 99]⟩ (by decide))
  · exact ev_else hbig (j2_all n hn t (by omega))
theorem FnNumbers (l : List Int) (hl : l.length ≤ maxLen ∧ ∀ x ∈ l, (Lit.int .u8 x).wf = true) : ∃ k, laws_FnNumbers.f k l = some true := by
  refine Ev.rounds ?_
  unfold laws_FnNumbers.f laws_big.f
  refine ev_bind0 rfl ?_
  by_cases hbig : (l.length : Int) > 1048576
  · exact ev_if (by simpa using hbig) (ev_some rfl)
  refine ev_else (by simpa using hbig) ?_
  obtain ⟨n, hn⟩ := spec_DrawVarText_f l (by omega)
  refine ev_bind hn ?_
  have j0t : Ev (fun k => laws_FnNumbers.j0 k l n true) true := by
    refine ev_succ ?_
    simp only [laws_FnNumbers.j0]
    exact ev_if trivial (j1_all l (by omega) 12345 (by omega))
  by_cases h0 : n < 0
  · exact ev_if h0 j0t
  refine ev_else h0 ?_
  by_cases h1 : n > 1000000000
  · rw [decide_eq_true h1]; exact j0t
  · rw [decide_eq_false h1]
    refine ev_succ ?_
    simp only [laws_FnNumbers.j0]
    obtain ⟨m, rfl⟩ := Int.eq_ofNat_of_zero_le (a := n) (by omega)
    exact ev_else (by simp) (j1_all l (by omega) m (by omega))

end Go.Proofs.YtmhkghmfoggaeaaDoor.Pure
