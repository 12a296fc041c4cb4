/- For every text the program's Frame returns what the reference's returns, without a condition of its own. -/
import Derived.Test.YtgdcfkhpeakbfaaPFnExactFramex2
namespace Go.Proofs.Ytgdcfkhpeakbfaa.Pure
open Go.RowKit Go.Proofs.Ytgdcfkhpeakbfaa.PFnExactFrame Go.Proofs.YtgdcfkhpeakbfaaW.PrintWords Go.Proofs.YtgdcfkhpeakbfaaW.PrintLast

set_option linter.unusedVariables false
set_option linter.unusedSimpArgs false
/-! small words on rounds -/
theorem wid {x : Int} (h0 : -9223372036854775808 ≤ x) (h1 : x ≤ 9223372036854775807) : wrap64 x = x := by
  unfold wrap64; omega
theorem wrap_to {x y : Int} (h : x = y) (h0 : -9223372036854775808 ≤ y) (h1 : y ≤ 9223372036854775807) : wrap64 x = y := by
  rw [h]; exact wid h0 h1
theorem ev_some {α : Type} {o : Option α} {r : α} (h : o = some r) : Ev (fun _ => o) r := ⟨0, fun _ _ => h⟩
theorem ev_succ {α : Type} {g : Nat → Option α} {r : α} (h : Ev (fun k => g (k + 1)) r) : Ev g r := Ev.step (fun _ => rfl) h
theorem ev_if {α : Type} {c : Prop} [Decidable c] {f g : Nat → Option α} {r : α} (h : c) (k : Ev f r) : Ev (fun n => if c then f n else g n) r := by
  simp only [if_pos h]; exact k
theorem ev_else {α : Type} {c : Prop} [Decidable c] {f g : Nat → Option α} {r : α} (h : ¬ c) (k : Ev g r) : Ev (fun n => if c then f n else g n) r := by
  simp only [if_neg h]; exact k
theorem ev_bind0 {α β : Type} {o : Option α} {f : Nat → α → Option β} {a : α} {r : β} (h : o = some a) (k : Ev (fun n => f n a) r) : Ev (fun n => o.bind (f n)) r := by
  subst h; exact k
theorem ev_bind {α β : Type} {g : Nat → Option α} {f : Nat → α → Option β} {a : α} {r : β} (h : Ev g a) (k : Ev (fun n => f n a) r) : Ev (fun n => (g n).bind (f n)) r := Ev.bind h k
theorem ev_eq {α : Type} {g : Nat → Option α} {a b : α} (h : Ev g a) (e : a = b) : Ev g b := e ▸ h
theorem tdivp {a b : Int} (h : 0 ≤ a) : Int.tdiv a b = a / b := Int.tdiv_eq_ediv_of_nonneg h
theorem tmodp {a b : Int} (h : 0 ≤ a) : Int.tmod a b = a % b := Int.tmod_eq_emod_of_nonneg h
theorem toList_iff (a b : ByteArray) : a.toList = b.toList ↔ a = b := by
  rw [ByteArray.toList_eq, ByteArray.toList_eq]
  exact ⟨fun h => ByteArray.ext (Array.toList_inj.mp h), fun h => by rw [h]⟩
/-! the sum, over numbers -/
def crcBit (x : Nat) : Nat := if x % 2 = 1 then (x / 2) ^^^ 3558460437 else x / 2
def crcBits : Nat → Nat → Nat
  | 0, x => x
  | n + 1, x => crcBits n (crcBit x)
def crcL : List Nat → Nat → Nat
  | [], x => x
  | b :: bs, x => crcL bs (crcBits 8 (x ^^^ b))
theorem xor_u32 (a b : Nat) (ha : a < 4294967296) (hb : b < 4294967296) : Go.bits .xor .u32 (a : Int) (b : Int) = ((a ^^^ b : Nat) : Int) := by
  have h : a ^^^ b < 2 ^ 32 := Nat.xor_lt_two_pow ha hb
  have e1 : a % 2 ^ 32 = a := Nat.mod_eq_of_lt ha
  have e2 : b % 2 ^ 32 = b := Nat.mod_eq_of_lt hb
  have e3 : IntKind.u32.bits = 32 := rfl
  simp only [Go.bits, e3, BitVec.ofInt_natCast, BitVec.toNat_xor, BitVec.toNat_ofNat, e1, e2, IntKind.wrap_u32]
  omega
theorem and_one_u32 (a : Nat) (ha : a < 4294967296) : Go.bits .and .u32 (a : Int) 1 = ((a % 2 : Nat) : Int) := by
  have e1 : a % 2 ^ 32 = a := Nat.mod_eq_of_lt ha
  have e3 : IntKind.u32.bits = 32 := rfl
  have e4 : (1 : Int) = ((1 : Nat) : Int) := rfl
  rw [e4]
  simp only [Go.bits, e3, BitVec.ofInt_natCast, BitVec.toNat_and, BitVec.toNat_ofNat, e1, IntKind.wrap_u32]
  have : a &&& (1 % 2 ^ 32) = a % 2 := Nat.and_one_is_mod a
  rw [this]
  omega
theorem crcBit_lt {x : Nat} (h : x < 4294967296) : crcBit x < 4294967296 := by
  unfold crcBit
  split
  · exact Nat.xor_lt_two_pow (n := 32) (by omega) (by omega)
  · omega
theorem crcBits_lt {x : Nat} (h : x < 4294967296) : ∀ n, crcBits n x < 4294967296
  | 0 => h
  | n + 1 => by
    unfold crcBits
    exact crcBits_lt (crcBit_lt h) n
def natsOf (s : ByteArray) : List Nat := s.data.toList.map UInt8.toNat
theorem natsOf_length (s : ByteArray) : (natsOf s).length = s.size := by simp [natsOf]
theorem bt_nat (s : ByteArray) (i : Nat) (h : i < s.size) : bt s (i : Int) = ((s[i]'h).toNat : Int) := by
  unfold bt; simp [h]
theorem natsOf_drop (s : ByteArray) (i : Nat) (h : i < s.size) : (natsOf s).drop i = (s[i]'h).toNat :: (natsOf s).drop (i + 1) := by
  have hl : i < (natsOf s).length := by rw [natsOf_length]; exact h
  rw [List.drop_eq_getElem_cons hl]
  congr 1
  simp [natsOf]
  rfl
theorem natsOf_lt (s : ByteArray) : ∀ x ∈ natsOf s, x < 256 := by
  intro x hx
  simp only [natsOf, List.mem_map] at hx
  obtain ⟨b, _, rfl⟩ := hx
  exact b.toNat_lt
theorem crcL_lt : ∀ (l : List Nat) (x : Nat), (∀ b ∈ l, b < 256) → x < 4294967296 → crcL l x < 4294967296
  | [], _, _, h => h
  | b :: bs, x, hb, h => by
    unfold crcL
    have h1 := hb b (List.mem_cons_self ..)
    exact crcL_lt bs _ (fun c hc => hb c (List.mem_cons_of_mem _ hc)) (crcBits_lt (Nat.xor_lt_two_pow (n := 32) h (by omega)) 8)
/-! a number in bytes -/
def vtl (n : Nat) : List Nat := if h : 127 < n then (n % 128 + 128) :: vtl (n / 128) else [n]
termination_by n
decreasing_by omega
theorem vtl_big {n : Nat} (h : 127 < n) : vtl n = (n % 128 + 128) :: vtl (n / 128) := by rw [vtl, dif_pos h]
theorem vtl_small {n : Nat} (h : n ≤ 127) : vtl n = [n] := by rw [vtl, dif_neg (by omega)]
def intsOf (l : List Nat) : List Int := l.map fun (n : Nat) => (n : Int)
theorem vtl_lt : ∀ (n : Nat), ∀ b ∈ vtl n, b < 256 := by
  intro n
  induction n using Nat.strongRecOn with
  | ind n ih =>
    intro b hb
    by_cases h : 127 < n
    · rw [vtl_big h] at hb
      rcases List.mem_cons.1 hb with rfl | hb
      · omega
      · exact ih _ (by omega) b hb
    · rw [vtl_small (by omega)] at hb
      have : b = n := by simpa using hb
      omega
def strN (l : List Nat) : ByteArray := strOfNums (intsOf l)
theorem natsOf_strN (l : List Nat) (h : ∀ b ∈ l, b < 256) : natsOf (strN l) = l := by
  unfold natsOf strN strOfNums intsOf
  simp only [List.map_map]
  conv => rhs; rw [← List.map_id l]
  apply List.map_congr_left
  intro b hb
  have := h b hb
  simp [UInt8.toNat_ofNat, Nat.mod_eq_of_lt this]
theorem strN_natsOf (s : ByteArray) : strN (natsOf s) = s := by
  unfold natsOf strN strOfNums intsOf
  apply ByteArray.ext
  apply Array.toList_inj.1
  simp [List.map_map, Function.comp_def]
theorem strN_inj {a b : List Nat} (ha : ∀ x ∈ a, x < 256) (hb : ∀ x ∈ b, x < 256) (h : strN a = strN b) : a = b := by
  rw [← natsOf_strN a ha, h, natsOf_strN b hb]
theorem natsOf_inj {a b : ByteArray} (h : natsOf a = natsOf b) : a = b := by
  rw [← strN_natsOf a, h, strN_natsOf]
theorem natsOf_append (a b : ByteArray) : natsOf (a ++ b) = natsOf a ++ natsOf b := by
  simp [natsOf]
theorem strN_append (a b : List Nat) : strN (a ++ b) = strN a ++ strN b := by
  unfold strN strOfNums intsOf
  apply ByteArray.ext
  apply Array.toList_inj.1
  simp
theorem strN_size (l : List Nat) : (strN l).size = l.length := by
  rw [← data_length]
  simp [strN, strOfNums, intsOf]
theorem natsOf_extract (s : ByteArray) (i j : Nat) : natsOf (s.extract i j) = ((natsOf s).take j).drop i := by
  unfold natsOf
  rw [ByteArray.data_extract, Array.toList_extract, List.extract_eq_take_drop, List.map_take, List.map_drop, List.drop_take]
theorem vtl_len (n : Nat) : (vtl n).length ≤ n + 1 := by
  induction n using Nat.strongRecOn with
  | ind n ih =>
    by_cases h : 127 < n
    · rw [vtl_big h, List.length_cons]
      have := ih (n / 128) (by omega)
      omega
    · rw [vtl_small (by omega)]; simp
def fourN (x : Nat) : List Nat := [x / 16777216 % 256, x / 65536 % 256, x / 256 % 256, x % 256]
def sumS (s : ByteArray) : ByteArray := strN (fourN (crcL (natsOf s) 4294967295))
theorem sumS_size (s : ByteArray) : (sumS s).size = 4 := by unfold sumS; rw [strN_size]; rfl
theorem four_eq (x : Nat) : strOfNums (([((x : Int) / 16777216) % 256, ((x : Int) / 65536) % 256, ((x : Int) / 256) % 256, ((x : Int)) % 256] : List Int)) = strN (fourN x) := by
  unfold strN fourN intsOf
  simp
def frameS (s : ByteArray) : ByteArray := (strN (vtl s.size) ++ sumS s) ++ s
def frameV (s : ByteArray) : ByteArray × Bool := if 1 ≤ s.size ∧ s.size ≤ 9000 then (frameS s, true) else (⟨#[]⟩, false)
theorem frame_head_size (s : ByteArray) : (strN (vtl s.size)).size ≤ s.size + 1 := by rw [strN_size]; exact vtl_len _
theorem impl_varText_l0 : ∀ (n : Nat) (xs : List Nat), xs.length + n < 140737488355328 → Ev (fun k => impl_varText.l0 k (n : Int) (intsOf xs)) (strN (xs ++ vtl n)) := by
  intro n
  induction n using Nat.strongRecOn with
  | ind n ih =>
    intro xs hl
    refine ev_succ ?_
    simp only [impl_varText.l0]
    have hlen : (intsOf xs).length = xs.length := by simp [intsOf]
    by_cases h : 127 < n
    · refine ev_if (by omega) ?_
      refine ev_if (by rw [hlen]; omega) ?_
      have e1 : wrap64 (Int.tdiv (n : Int) 128) = ((n / 128 : Nat) : Int) := by rw [tdivp (Int.natCast_nonneg _)]; exact wrap_to (by omega) (by omega) (by omega)
      have e2 : wrap64 (128 + (Int.tmod (n : Int) 128)) % 256 = ((n % 128 + 128 : Nat) : Int) := by rw [tmodp (Int.natCast_nonneg _), wrap_to (y := ((n % 128 + 128 : Nat) : Int)) (by omega) (by omega) (by omega)]; omega
      have e3 : intsOf xs ++ [((n % 128 + 128 : Nat) : Int)] = intsOf (xs ++ [n % 128 + 128]) := by simp [intsOf]
      rw [e1, e2, e3, vtl_big h]
      have e4 : xs ++ (n % 128 + 128) :: vtl (n / 128) = (xs ++ [n % 128 + 128]) ++ vtl (n / 128) := by simp
      rw [e4]
      exact ih (n / 128) (by omega) _ (by rw [List.length_append, List.length_singleton]; omega)
    · refine ev_else (by omega) ?_
      refine ev_if (by rw [hlen]; omega) ?_
      have e2 : (n : Int) % 256 = (n : Int) := by omega
      have e3 : intsOf xs ++ [(n : Int)] = intsOf (xs ++ [n]) := by simp [intsOf]
      rw [e2, e3, vtl_small (by omega)]
      exact ev_some rfl
theorem impl_varText_f (n : Nat) (h : n < 140737488355328) : Ev (fun k => impl_varText.f k (n : Int)) (strN (vtl n)) := by
  have := impl_varText_l0 n [] (by simpa using h)
  simpa [impl_varText.f, intsOf] using this
theorem impl_SumMore_l1 (s : ByteArray) (i : Nat) (hi : i < s.size) (hs : s.size ≤ 140737488355328) (r : Int) : ∀ (d x : Nat), d ≤ 8 → x < 4294967296 →
    Ev (fun k => impl_SumMore.l0 k ((crcBits d x : Nat) : Int) s ((i + 1 : Nat) : Int)) r → Ev (fun k => impl_SumMore.l1 k (x : Int) s (i : Int) ((8 - d : Nat) : Int)) r := by
  intro d
  induction d with
  | zero =>
    intro x _ hx h
    refine ev_succ ?_
    simp only [impl_SumMore.l1]
    refine ev_else (by omega) ?_
    rw [wrap_to (y := ((i + 1 : Nat) : Int)) (by omega) (by omega) (by omega)]
    exact h
  | succ d ih =>
    intro x hd hx h
    have hb := and_one_u32 x hx
    refine ev_succ ?_
    simp only [impl_SumMore.l1]
    refine ev_if (by omega) ?_
    have e8 : wrap64 (((8 - (d + 1) : Nat) : Int) + 1) = ((8 - d : Nat) : Int) := wrap_to (by omega) (by omega) (by omega)
    rw [hb, e8]
    have e2 : (x : Int) / 2 = ((x / 2 : Nat) : Int) := by omega
    rw [e2]
    unfold crcBits at h
    have hlt := crcBit_lt hx
    by_cases hodd : x % 2 = 1
    · refine ev_if (by omega) ?_
      have e3 := xor_u32 (x / 2) 3558460437 (by omega) (by omega)
      have e4 : crcBit x = (x / 2) ^^^ 3558460437 := if_pos hodd
      rw [e4] at h hlt
      rw [show (3558460437 : Int) = ((3558460437 : Nat) : Int) from rfl, e3]
      exact ih _ (by omega) hlt h
    · refine ev_else (by omega) ?_
      have e4 : crcBit x = x / 2 := if_neg hodd
      rw [e4] at h hlt
      exact ih _ (by omega) hlt h
theorem impl_SumMore_l0 (s : ByteArray) (hs : s.size ≤ 140737488355328) : ∀ (d i x : Nat), i + d = s.size → x < 4294967296 →
    Ev (fun k => impl_SumMore.l0 k (x : Int) s (i : Int)) ((crcL ((natsOf s).drop i) x : Nat) : Int) := by
  intro d
  induction d with
  | zero =>
    intro i x hi hx
    refine ev_succ ?_
    simp only [impl_SumMore.l0]
    refine ev_else (by omega) ?_
    have : (natsOf s).drop i = [] := List.drop_eq_nil_of_le (by rw [natsOf_length]; omega)
    rw [this]
    exact ev_some rfl
  | succ d ih =>
    intro i x hi hx
    have hlt : i < s.size := by omega
    refine ev_succ ?_
    simp only [impl_SumMore.l0]
    refine ev_if (by omega) ?_
    refine ev_if (by omega) ?_
    have hbb : (s[i]'hlt).toNat < 256 := UInt8.toNat_lt _
    rw [bt_nat s i hlt, natsOf_drop s i hlt]
    have e1 : (((s[i]'hlt).toNat : Int)) % 4294967296 = (((s[i]'hlt).toNat : Nat) : Int) := by omega
    rw [e1, xor_u32 _ _ hx (by omega)]
    have hx' : x ^^^ (s[i]'hlt).toNat < 4294967296 := Nat.xor_lt_two_pow (n := 32) hx (by omega)
    unfold crcL
    exact impl_SumMore_l1 s i hlt hs _ 8 _ (by omega) hx' (ih (i + 1) _ (by omega) (crcBits_lt hx' 8))
theorem impl_SumMore_f (s : ByteArray) (hs : s.size ≤ 140737488355328) (x : Nat) (hx : x < 4294967296) :
    Ev (fun k => impl_SumMore.f k (x : Int) s) ((crcL (natsOf s) x : Nat) : Int) := by
  have := impl_SumMore_l0 s hs s.size 0 x (by omega) hx
  simpa [impl_SumMore.f] using this
theorem impl_SumOf_f (s : ByteArray) (hs : s.size ≤ 140737488355328) :
    Ev (fun k => impl_SumOf.f k s) ((crcL (natsOf s) 4294967295 : Nat) : Int) := by
  unfold impl_SumOf.f
  exact ev_bind (impl_SumMore_f s hs 4294967295 (by omega)) (ev_some rfl)
theorem impl_sumText_f (s : ByteArray) (hs : s.size ≤ 140737488355328) : Ev (fun k => impl_sumText.f k s) (sumS s) := by
  unfold impl_sumText.f
  exact ev_bind (impl_SumOf_f s hs) (ev_some (by rw [four_eq]; rfl))
theorem impl_inRange_f (x a b : Int) : impl_inRange.f x a b = some (decide (a ≤ x ∧ x ≤ b)) := by
  unfold impl_inRange.f
  by_cases h1 : a ≤ x <;> by_cases h2 : x ≤ b <;> simp [h1, h2]
theorem impl_frame_f (s : ByteArray) (hs : s.size ≤ 1000000000) : Ev (fun k => impl_frame.f k s) (frameS s) := by
  unfold impl_frame.f frameS
  have h1 := frame_head_size s
  have h2 := sumS_size s
  refine ev_bind (impl_varText_f s.size (by omega)) (ev_bind (impl_sumText_f s (by omega)) ?_)
  exact ev_if (by omega) (ev_if (by rw [ByteArray.size_append]; omega) (ev_some rfl))
theorem impl_Frame_f (s : ByteArray) (_hs : s.size ≤ 140737488351232) : Ev (fun k => impl_Frame.f k s) (frameV s) := by
  unfold impl_Frame.f frameV
  refine ev_bind0 (impl_inRange_f _ _ _) ?_
  by_cases h : 1 ≤ s.size ∧ s.size ≤ 9000
  · rw [if_pos h]
    exact ev_if (by simp; omega) (ev_bind (impl_frame_f s (by omega)) (ev_some rfl))
  · rw [if_neg h]
    exact ev_else (by simp; omega) (ev_some rfl)
theorem spec_l01Var_l0 : ∀ (n : Nat) (xs : List Nat), xs.length + n < 140737488355328 → Ev (fun k => spec_l01Var.l0 k (n : Int) (intsOf xs)) (strN (xs ++ vtl n)) := by
  intro n
  induction n using Nat.strongRecOn with
  | ind n ih =>
    intro xs hl
    refine ev_succ ?_
    simp only [spec_l01Var.l0]
    have hlen : (intsOf xs).length = xs.length := by simp [intsOf]
    by_cases h : 127 < n
    · refine ev_if (by omega) ?_
      refine ev_if (by rw [hlen]; omega) ?_
      have e1 : wrap64 (Int.tdiv (n : Int) 128) = ((n / 128 : Nat) : Int) := by rw [tdivp (Int.natCast_nonneg _)]; exact wrap_to (by omega) (by omega) (by omega)
      have e2 : wrap64 ((Int.tmod (n : Int) 128) + 128) % 256 = ((n % 128 + 128 : Nat) : Int) := by rw [tmodp (Int.natCast_nonneg _), wrap_to (y := ((n % 128 + 128 : Nat) : Int)) (by omega) (by omega) (by omega)]; omega
      have e3 : intsOf xs ++ [((n % 128 + 128 : Nat) : Int)] = intsOf (xs ++ [n % 128 + 128]) := by simp [intsOf]
      rw [e1, e2, e3, vtl_big h]
      have e4 : xs ++ (n % 128 + 128) :: vtl (n / 128) = (xs ++ [n % 128 + 128]) ++ vtl (n / 128) := by simp
      rw [e4]
      exact ih (n / 128) (by omega) _ (by rw [List.length_append, List.length_singleton]; omega)
    · refine ev_else (by omega) ?_
      refine ev_if (by rw [hlen]; omega) ?_
      have e2 : (n : Int) % 256 = (n : Int) := by omega
      have e3 : intsOf xs ++ [(n : Int)] = intsOf (xs ++ [n]) := by simp [intsOf]
      rw [e2, e3, vtl_small (by omega)]
      exact ev_some rfl
theorem spec_l01Var_f (n : Nat) (h : n < 140737488355328) : Ev (fun k => spec_l01Var.f k (n : Int)) (strN (vtl n)) := by
  have := spec_l01Var_l0 n [] (by simpa using h)
  simpa [spec_l01Var.f, intsOf] using this
theorem spec_SumMore_l1 (s : ByteArray) (i : Nat) (hi : i < s.size) (hs : s.size ≤ 140737488355328) (r : Int) : ∀ (d x : Nat), d ≤ 8 → x < 4294967296 →
    Ev (fun k => spec_SumMore.l0 k ((crcBits d x : Nat) : Int) s ((i + 1 : Nat) : Int)) r → Ev (fun k => spec_SumMore.l1 k (x : Int) s (i : Int) ((8 - d : Nat) : Int)) r := by
  intro d
  induction d with
  | zero =>
    intro x _ hx h
    refine ev_succ ?_
    simp only [spec_SumMore.l1]
    refine ev_else (by omega) ?_
    rw [wrap_to (y := ((i + 1 : Nat) : Int)) (by omega) (by omega) (by omega)]
    exact h
  | succ d ih =>
    intro x hd hx h
    have hb : Int.tmod (x : Int) 2 = ((x % 2 : Nat) : Int) := by rw [tmodp (Int.natCast_nonneg _)]; omega
    refine ev_succ ?_
    simp only [spec_SumMore.l1]
    refine ev_if (by omega) ?_
    have e8 : wrap64 (((8 - (d + 1) : Nat) : Int) + 1) = ((8 - d : Nat) : Int) := wrap_to (by omega) (by omega) (by omega)
    rw [hb, e8]
    have e2 : Int.tdiv (x : Int) 2 % 4294967296 = ((x / 2 : Nat) : Int) := by rw [tdivp (Int.natCast_nonneg _)]; omega
    rw [e2]
    unfold crcBits at h
    have hlt := crcBit_lt hx
    by_cases hodd : x % 2 = 1
    · refine ev_if (by omega) ?_
      have e3 := xor_u32 (x / 2) 3558460437 (by omega) (by omega)
      have e4 : crcBit x = (x / 2) ^^^ 3558460437 := if_pos hodd
      rw [e4] at h hlt
      rw [show (3558460437 : Int) = ((3558460437 : Nat) : Int) from rfl, e3]
      exact ih _ (by omega) hlt h
    · refine ev_else (by omega) ?_
      have e4 : crcBit x = x / 2 := if_neg hodd
      rw [e4] at h hlt
      exact ih _ (by omega) hlt h
theorem spec_SumMore_l0 (s : ByteArray) (hs : s.size ≤ 140737488355328) : ∀ (d i x : Nat), i + d = s.size → x < 4294967296 →
    Ev (fun k => spec_SumMore.l0 k (x : Int) s (i : Int)) ((crcL ((natsOf s).drop i) x : Nat) : Int) := by
  intro d
  induction d with
  | zero =>
    intro i x hi hx
    refine ev_succ ?_
    simp only [spec_SumMore.l0]
    refine ev_else (by omega) ?_
    have : (natsOf s).drop i = [] := List.drop_eq_nil_of_le (by rw [natsOf_length]; omega)
    rw [this]
    exact ev_some rfl
  | succ d ih =>
    intro i x hi hx
    have hlt : i < s.size := by omega
    refine ev_succ ?_
    simp only [spec_SumMore.l0]
    refine ev_if (by omega) ?_
    refine ev_if (by omega) ?_
    have hbb : (s[i]'hlt).toNat < 256 := UInt8.toNat_lt _
    rw [bt_nat s i hlt, natsOf_drop s i hlt]
    have e1 : (((s[i]'hlt).toNat : Int)) % 4294967296 = (((s[i]'hlt).toNat : Nat) : Int) := by omega
    rw [e1, xor_u32 _ _ hx (by omega)]
    have hx' : x ^^^ (s[i]'hlt).toNat < 4294967296 := Nat.xor_lt_two_pow (n := 32) hx (by omega)
    unfold crcL
    exact spec_SumMore_l1 s i hlt hs _ 8 _ (by omega) hx' (ih (i + 1) _ (by omega) (crcBits_lt hx' 8))
theorem spec_SumMore_f (s : ByteArray) (hs : s.size ≤ 140737488355328) (x : Nat) (hx : x < 4294967296) :
    Ev (fun k => spec_SumMore.f k (x : Int) s) ((crcL (natsOf s) x : Nat) : Int) := by
  have := spec_SumMore_l0 s hs s.size 0 x (by omega) hx
  simpa [spec_SumMore.f] using this
theorem spec_SumOf_f (s : ByteArray) (hs : s.size ≤ 140737488355328) :
    Ev (fun k => spec_SumOf.f k s) ((crcL (natsOf s) 4294967295 : Nat) : Int) := by
  unfold spec_SumOf.f
  exact ev_bind (spec_SumMore_f s hs 4294967295 (by omega)) (ev_some rfl)
theorem spec_l02Four_f (x : Nat) : spec_l02Four.f (x : Int) = some (strN (fourN x)) := by
  unfold spec_l02Four.f
  rw [four_eq]
theorem spec_l01In_f (x a b : Int) : spec_l01In.f x a b = some (decide (a ≤ x ∧ x ≤ b)) := by
  unfold spec_l01In.f
  by_cases h1 : a ≤ x <;> by_cases h2 : x ≤ b <;> simp [h1, h2]
theorem spec_Frame_f (s : ByteArray) (_hs : s.size ≤ 140737488351232) : Ev (fun k => spec_Frame.f k s) (frameV s) := by
  unfold spec_Frame.f frameV
  refine ev_bind0 (spec_l01In_f _ _ _) ?_
  by_cases h : 1 ≤ s.size ∧ s.size ≤ 9000
  · rw [if_pos h]
    refine ev_if (by simp; omega) ?_
    have h1 := frame_head_size s
    have h2 := sumS_size s
    unfold frameS
    refine ev_bind (spec_l01Var_f s.size (by omega)) (ev_bind (spec_SumOf_f s (by omega)) (ev_bind0 (spec_l02Four_f _) ?_))
    exact ev_if (by unfold sumS at h2; omega) (ev_if (by rw [ByteArray.size_append]; unfold sumS at h2; omega) (ev_some rfl))
  · rw [if_neg h]
    exact ev_else (by simp; omega) (ev_some rfl)
theorem FnExactFrame : laws_FnExactFrame.Pure := by
  intro a0 h0
  refine Ev.rounds ?_
  unfold laws_FnExactFrame.f
  by_cases hbig : (a0.size : Int) > 1048576
  · exact ev_if hbig (ev_some rfl)
  refine ev_else hbig ?_
  refine ev_bind (spec_Frame_f a0 (by omega)) ?_
  refine ev_bind (impl_Frame_f a0 (by omega)) ?_
  refine ev_if rfl ?_
  exact ev_else (by simp) (ev_some rfl)

end Go.Proofs.Ytgdcfkhpeakbfaa.Pure
