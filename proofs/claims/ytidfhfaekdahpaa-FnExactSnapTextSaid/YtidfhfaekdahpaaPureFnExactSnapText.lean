/- For every snapshot the program's SnapText returns what the reference's returns and leaves it as it was, without a condition of its own. -/
import Derived.Test.YtidfhfaekdahpaaQFnExactSnapTextx5
namespace Go.Proofs.Ytidfhfaekdahpaa.Pure
open Go.RowKit Go.Proofs.Ytidfhfaekdahpaa.QFnExactSnapText Go.Proofs.YtidfhfaekdahpaaW.PrintWords Go.Proofs.YtidfhfaekdahpaaW.PrintLast

set_option linter.unusedVariables false
set_option linter.unusedSimpArgs false
/-! small words on rounds -/
theorem wid {x : Int} (h0 : -9223372036854775808 ≤ x) (h1 : x ≤ 9223372036854775807) : wrap64 x = x := by
  unfold wrap64; omega
theorem wrap_to {x y : Int} (h : x = y) (h0 : -9223372036854775808 ≤ y) (h1 : y ≤ 9223372036854775807) : wrap64 x = y := by
  rw [h]; exact wid h0 h1
theorem ev_some {α : Type} {o : Option α} {r : α} (h : o = some r) : Ev (fun _ => o) r := ⟨0, fun _ _ => h⟩
theorem ev_succ {α : Type} {g : Nat → Option α} {r : α} (h : Ev (fun k => g (k + 1)) r) : Ev g r := Ev.step (fun _ => rfl) h
theorem ev_if {α : Type} {c : Prop} [Decidable c] {f g : Nat → Option α} {r : α} (h : c) (k : Ev f r) : Ev (fun n => if c then f n else g n) r := by
  simp only [if_pos h]; exact k
theorem ev_else {α : Type} {c : Prop} [Decidable c] {f g : Nat → Option α} {r : α} (h : ¬ c) (k : Ev g r) : Ev (fun n => if c then f n else g n) r := by
  simp only [if_neg h]; exact k
theorem ev_bind0 {α β : Type} {o : Option α} {f : Nat → α → Option β} {a : α} {r : β} (h : o = some a) (k : Ev (fun n => f n a) r) : Ev (fun n => o.bind (f n)) r := by
  subst h; exact k
theorem ev_bind {α β : Type} {g : Nat → Option α} {f : Nat → α → Option β} {a : α} {r : β} (h : Ev g a) (k : Ev (fun n => f n a) r) : Ev (fun n => (g n).bind (f n)) r := Ev.bind h k
theorem ev_eq {α : Type} {g : Nat → Option α} {a b : α} (h : Ev g a) (e : a = b) : Ev g b := e ▸ h
theorem tdivp {a b : Int} (h : 0 ≤ a) : Int.tdiv a b = a / b := Int.tdiv_eq_ediv_of_nonneg h
theorem tmodp {a b : Int} (h : 0 ≤ a) : Int.tmod a b = a % b := Int.tmod_eq_emod_of_nonneg h
theorem toList_iff (a b : ByteArray) : a.toList = b.toList ↔ a = b := by
  rw [ByteArray.toList_eq, ByteArray.toList_eq]
  exact ⟨fun h => ByteArray.ext (Array.toList_inj.mp h), fun h => by rw [h]⟩
theorem drop_getD {α : Type} (l : List α) (d : α) (i : Nat) (h : i < l.length) : l.drop i = l.getD i d :: l.drop (i + 1) := by
  rw [List.drop_eq_getElem_cons h, List.getD_eq_getElem?_getD, List.getElem?_eq_getElem h]
  rfl
theorem drop_end {α : Type} (l : List α) (i : Nat) (h : l.length ≤ i) : l.drop i = [] := List.drop_eq_nil_of_le h
theorem rd_nat (l : List Int) (i : Nat) : rd l (i : Int) = l.getD i 0 := rfl
theorem copy_step {α : Type} (l : List α) (d z : α) (i : Nat) (h : i < l.length) :
    (l.take i ++ List.replicate (l.length - i) z).set i (l.getD i d) = l.take (i + 1) ++ List.replicate (l.length - (i + 1)) z := by
  have h1 : (l.take i).length = i := by rw [List.length_take]; omega
  rw [List.set_append_right _ _ (by omega), h1, Nat.sub_self]
  have h2 : l.length - i = (l.length - (i + 1)) + 1 := by omega
  rw [h2, List.replicate_succ, List.set_cons_zero, List.take_succ_eq_append_getElem h, List.append_assoc]
  congr 1
  rw [List.getD_eq_getElem?_getD, List.getElem?_eq_getElem h]
  rfl
theorem copy_len {α : Type} (l : List α) (z : α) (i : Nat) (h : i ≤ l.length) : (l.take i ++ List.replicate (l.length - i) z).length = l.length := by
  rw [List.length_append, List.length_take, List.length_replicate]; omega
theorem toNat_nat (i : Nat) : ((i : Int)).toNat = i := rfl
theorem succ_i (i : Nat) (h : i ≤ 9223372036854775806) : wrap64 ((i : Int) + 1) = ((i + 1 : Nat) : Int) := wrap_to (by omega) (by omega) (by omega)
theorem pred_i (i : Nat) (h : 0 < i) (h' : i ≤ 9223372036854775806) : wrap64 ((i : Int) - 1) = ((i - 1 : Nat) : Int) := wrap_to (by omega) (by omega) (by omega)
def riseL (a b : Int) : Option Int → List Int → Bool
  | _, [] => true
  | p, x :: xs => decide (a ≤ x ∧ x ≤ b) && ((match p with | none => true | some y => decide (y < x)) && riseL a b (some x) xs)
def prevAt (l : List Int) (i : Nat) : Option Int := if i = 0 then none else some (l.getD (i - 1) 0)
theorem riseL_at (a b : Int) (l : List Int) (i : Nat) (h : i < l.length) :
    riseL a b (prevAt l i) (l.drop i) = (decide (a ≤ l.getD i 0 ∧ l.getD i 0 ≤ b) && (if i = 0 then true else decide (l.getD (i - 1) 0 < l.getD i 0)) && riseL a b (prevAt l (i + 1)) (l.drop (i + 1))) := by
  rw [drop_getD l 0 i h]
  have e : prevAt l (i + 1) = some (l.getD i 0) := by simp [prevAt]
  rw [e]
  simp only [riseL, prevAt]
  by_cases h0 : i = 0
  · simp [h0]
  · simp [h0, Bool.and_assoc]
def confOkB (l : List Int) : Bool := decide (1 ≤ l.length) && riseL 1 4 none l
/-! the sum, over numbers -/
def crcBit (x : Nat) : Nat := if x % 2 = 1 then (x / 2) ^^^ 3558460437 else x / 2
def crcBits : Nat → Nat → Nat
  | 0, x => x
  | n + 1, x => crcBits n (crcBit x)
def crcL : List Nat → Nat → Nat
  | [], x => x
  | b :: bs, x => crcL bs (crcBits 8 (x ^^^ b))
theorem xor_u32 (a b : Nat) (ha : a < 4294967296) (hb : b < 4294967296) : Go.bits .xor .u32 (a : Int) (b : Int) = ((a ^^^ b : Nat) : Int) := by
  have h : a ^^^ b < 2 ^ 32 := Nat.xor_lt_two_pow ha hb
  have e1 : a % 2 ^ 32 = a := Nat.mod_eq_of_lt ha
  have e2 : b % 2 ^ 32 = b := Nat.mod_eq_of_lt hb
  have e3 : IntKind.u32.bits = 32 := rfl
  simp only [Go.bits, e3, BitVec.ofInt_natCast, BitVec.toNat_xor, BitVec.toNat_ofNat, e1, e2, IntKind.wrap_u32]
  omega
theorem and_one_u32 (a : Nat) (ha : a < 4294967296) : Go.bits .and .u32 (a : Int) 1 = ((a % 2 : Nat) : Int) := by
  have e1 : a % 2 ^ 32 = a := Nat.mod_eq_of_lt ha
  have e3 : IntKind.u32.bits = 32 := rfl
  have e4 : (1 : Int) = ((1 : Nat) : Int) := rfl
  rw [e4]
  simp only [Go.bits, e3, BitVec.ofInt_natCast, BitVec.toNat_and, BitVec.toNat_ofNat, e1, IntKind.wrap_u32]
  have : a &&& (1 % 2 ^ 32) = a % 2 := Nat.and_one_is_mod a
  rw [this]
  omega
theorem crcBit_lt {x : Nat} (h : x < 4294967296) : crcBit x < 4294967296 := by
  unfold crcBit
  split
  · exact Nat.xor_lt_two_pow (n := 32) (by omega) (by omega)
  · omega
theorem crcBits_lt {x : Nat} (h : x < 4294967296) : ∀ n, crcBits n x < 4294967296
  | 0 => h
  | n + 1 => by
    unfold crcBits
    exact crcBits_lt (crcBit_lt h) n
def natsOf (s : ByteArray) : List Nat := s.data.toList.map UInt8.toNat
theorem natsOf_length (s : ByteArray) : (natsOf s).length = s.size := by simp [natsOf]
theorem bt_nat (s : ByteArray) (i : Nat) (h : i < s.size) : bt s (i : Int) = ((s[i]'h).toNat : Int) := by
  unfold bt; simp [h]
theorem natsOf_drop (s : ByteArray) (i : Nat) (h : i < s.size) : (natsOf s).drop i = (s[i]'h).toNat :: (natsOf s).drop (i + 1) := by
  have hl : i < (natsOf s).length := by rw [natsOf_length]; exact h
  rw [List.drop_eq_getElem_cons hl]
  congr 1
  simp [natsOf]
  rfl
theorem natsOf_lt (s : ByteArray) : ∀ x ∈ natsOf s, x < 256 := by
  intro x hx
  simp only [natsOf, List.mem_map] at hx
  obtain ⟨b, _, rfl⟩ := hx
  exact b.toNat_lt
theorem crcL_lt : ∀ (l : List Nat) (x : Nat), (∀ b ∈ l, b < 256) → x < 4294967296 → crcL l x < 4294967296
  | [], _, _, h => h
  | b :: bs, x, hb, h => by
    unfold crcL
    have h1 := hb b (List.mem_cons_self ..)
    exact crcL_lt bs _ (fun c hc => hb c (List.mem_cons_of_mem _ hc)) (crcBits_lt (Nat.xor_lt_two_pow (n := 32) h (by omega)) 8)
/-! a number in bytes -/
def vtl (n : Nat) : List Nat := if h : 127 < n then (n % 128 + 128) :: vtl (n / 128) else [n]
termination_by n
decreasing_by omega
theorem vtl_big {n : Nat} (h : 127 < n) : vtl n = (n % 128 + 128) :: vtl (n / 128) := by rw [vtl, dif_pos h]
theorem vtl_small {n : Nat} (h : n ≤ 127) : vtl n = [n] := by rw [vtl, dif_neg (by omega)]
def intsOf (l : List Nat) : List Int := l.map fun (n : Nat) => (n : Int)
theorem vtl_lt : ∀ (n : Nat), ∀ b ∈ vtl n, b < 256 := by
  intro n
  induction n using Nat.strongRecOn with
  | ind n ih =>
    intro b hb
    by_cases h : 127 < n
    · rw [vtl_big h] at hb
      rcases List.mem_cons.1 hb with rfl | hb
      · omega
      · exact ih _ (by omega) b hb
    · rw [vtl_small (by omega)] at hb
      have : b = n := by simpa using hb
      omega
def strN (l : List Nat) : ByteArray := strOfNums (intsOf l)
theorem natsOf_strN (l : List Nat) (h : ∀ b ∈ l, b < 256) : natsOf (strN l) = l := by
  unfold natsOf strN strOfNums intsOf
  simp only [List.map_map]
  conv => rhs; rw [← List.map_id l]
  apply List.map_congr_left
  intro b hb
  have := h b hb
  simp [UInt8.toNat_ofNat, Nat.mod_eq_of_lt this]
theorem strN_natsOf (s : ByteArray) : strN (natsOf s) = s := by
  unfold natsOf strN strOfNums intsOf
  apply ByteArray.ext
  apply Array.toList_inj.1
  simp [List.map_map, Function.comp_def]
theorem strN_inj {a b : List Nat} (ha : ∀ x ∈ a, x < 256) (hb : ∀ x ∈ b, x < 256) (h : strN a = strN b) : a = b := by
  rw [← natsOf_strN a ha, h, natsOf_strN b hb]
theorem natsOf_inj {a b : ByteArray} (h : natsOf a = natsOf b) : a = b := by
  rw [← strN_natsOf a, h, strN_natsOf]
theorem natsOf_append (a b : ByteArray) : natsOf (a ++ b) = natsOf a ++ natsOf b := by
  simp [natsOf]
theorem strN_append (a b : List Nat) : strN (a ++ b) = strN a ++ strN b := by
  unfold strN strOfNums intsOf
  apply ByteArray.ext
  apply Array.toList_inj.1
  simp
theorem strN_size (l : List Nat) : (strN l).size = l.length := by
  rw [← data_length]
  simp [strN, strOfNums, intsOf]
theorem natsOf_extract (s : ByteArray) (i j : Nat) : natsOf (s.extract i j) = ((natsOf s).take j).drop i := by
  unfold natsOf
  rw [ByteArray.data_extract, Array.toList_extract, List.extract_eq_take_drop, List.map_take, List.map_drop, List.drop_take]
theorem vtl_len (n : Nat) : (vtl n).length ≤ n + 1 := by
  induction n using Nat.strongRecOn with
  | ind n ih =>
    by_cases h : 127 < n
    · rw [vtl_big h, List.length_cons]
      have := ih (n / 128) (by omega)
      omega
    · rw [vtl_small (by omega)]; simp
def octS (l : List Int) : ByteArray := strOfNums (l.map fun x => x % 256)
def confTextV (l : List Int) : ByteArray × Bool := if confOkB l = true then (octS l, true) else (⟨#[]⟩, false)
def fourN (x : Nat) : List Nat := [x / 16777216 % 256, x / 65536 % 256, x / 256 % 256, x % 256]
def sumS (s : ByteArray) : ByteArray := strN (fourN (crcL (natsOf s) 4294967295))
theorem sumS_size (s : ByteArray) : (sumS s).size = 4 := by unfold sumS; rw [strN_size]; rfl
theorem four_eq (x : Nat) : strOfNums (([((x : Int) / 16777216) % 256, ((x : Int) / 65536) % 256, ((x : Int) / 256) % 256, ((x : Int)) % 256] : List Int)) = strN (fourN x) := by
  unfold strN fourN intsOf
  simp
def sealedV (s : ByteArray) : ByteArray × Bool := if s.size ≤ 20000 then (s ++ sumS s, true) else (⟨#[]⟩, false)
def unsealedV (s : ByteArray) : ByteArray × Bool :=
  if 4 ≤ s.size ∧ s.size ≤ 20004 ∧ sumS (s.extract 0 (s.size - 4)) = s.extract (s.size - 4) s.size then (s.extract 0 (s.size - 4), true) else (⟨#[]⟩, false)
def shS (s : ByteArray) : ByteArray := strN (vtl s.size) ++ s
def snapBytes (i t : Int) (conf : List Int) (body : ByteArray) : ByteArray := ((strN (vtl i.toNat) ++ strN (vtl t.toNat)) ++ shS (octS conf)) ++ shS body
def snapOkB (i t : Int) (conf : List Int) (body : ByteArray) : Bool := decide (0 ≤ i ∧ i ≤ 1000000) && (decide (0 ≤ t ∧ t ≤ 100000) && (confOkB conf && decide (body.size ≤ 20000)))
def snapTextV (i t : Int) (conf : List Int) (body : ByteArray) : ByteArray × Bool :=
  if snapOkB i t conf body = true ∧ (snapBytes i t conf body).size ≤ 19996 then (snapBytes i t conf body ++ sumS (snapBytes i t conf body), true) else (⟨#[]⟩, false)
theorem octS_size (l : List Int) : (octS l).size = l.length := by
  rw [← data_length]
  simp [octS, strOfNums]
theorem shS_size (s : ByteArray) : (shS s).size ≤ 2 * s.size + 1 := by
  unfold shS
  rw [ByteArray.size_append, strN_size]
  have := vtl_len s.size
  omega
theorem snap_parts (i t : Int) (conf : List Int) (body : ByteArray) (hi : 0 ≤ i ∧ i ≤ 1000000) (ht : 0 ≤ t ∧ t ≤ 100000) (hc : conf.length ≤ 1048576) (hb : body.size ≤ 20000) :
    (strN (vtl i.toNat)).size ≤ 1000001 ∧ (strN (vtl t.toNat)).size ≤ 100001 ∧ (shS (octS conf)).size ≤ 2097153 ∧ (shS body).size ≤ 40001 := by
  refine ⟨?_, ?_, ?_, ?_⟩
  · rw [strN_size]; have := vtl_len i.toNat; omega
  · rw [strN_size]; have := vtl_len t.toNat; omega
  · have := shS_size (octS conf); rw [octS_size] at this; omega
  · have := shS_size body; omega
theorem impl_SumMore_l1 (s : ByteArray) (i : Nat) (hi : i < s.size) (hs : s.size ≤ 140737488355328) (r : Int) : ∀ (d x : Nat), d ≤ 8 → x < 4294967296 →
    Ev (fun k => impl_SumMore.l0 k ((crcBits d x : Nat) : Int) s ((i + 1 : Nat) : Int)) r → Ev (fun k => impl_SumMore.l1 k (x : Int) s (i : Int) ((8 - d : Nat) : Int)) r := by
  intro d
  induction d with
  | zero =>
    intro x _ hx h
    refine ev_succ ?_
    simp only [impl_SumMore.l1]
    refine ev_else (by omega) ?_
    rw [wrap_to (y := ((i + 1 : Nat) : Int)) (by omega) (by omega) (by omega)]
    exact h
  | succ d ih =>
    intro x hd hx h
    have hb := and_one_u32 x hx
    refine ev_succ ?_
    simp only [impl_SumMore.l1]
    refine ev_if (by omega) ?_
    have e8 : wrap64 (((8 - (d + 1) : Nat) : Int) + 1) = ((8 - d : Nat) : Int) := wrap_to (by omega) (by omega) (by omega)
    rw [hb, e8]
    have e2 : (x : Int) / 2 = ((x / 2 : Nat) : Int) := by omega
    rw [e2]
    unfold crcBits at h
    have hlt := crcBit_lt hx
    by_cases hodd : x % 2 = 1
    · refine ev_if (by omega) ?_
      have e3 := xor_u32 (x / 2) 3558460437 (by omega) (by omega)
      have e4 : crcBit x = (x / 2) ^^^ 3558460437 := if_pos hodd
      rw [e4] at h hlt
      rw [show (3558460437 : Int) = ((3558460437 : Nat) : Int) from rfl, e3]
      exact ih _ (by omega) hlt h
    · refine ev_else (by omega) ?_
      have e4 : crcBit x = x / 2 := if_neg hodd
      rw [e4] at h hlt
      exact ih _ (by omega) hlt h
theorem impl_SumMore_l0 (s : ByteArray) (hs : s.size ≤ 140737488355328) : ∀ (d i x : Nat), i + d = s.size → x < 4294967296 →
    Ev (fun k => impl_SumMore.l0 k (x : Int) s (i : Int)) ((crcL ((natsOf s).drop i) x : Nat) : Int) := by
  intro d
  induction d with
  | zero =>
    intro i x hi hx
    refine ev_succ ?_
    simp only [impl_SumMore.l0]
    refine ev_else (by omega) ?_
    have : (natsOf s).drop i = [] := List.drop_eq_nil_of_le (by rw [natsOf_length]; omega)
    rw [this]
    exact ev_some rfl
  | succ d ih =>
    intro i x hi hx
    have hlt : i < s.size := by omega
    refine ev_succ ?_
    simp only [impl_SumMore.l0]
    refine ev_if (by omega) ?_
    refine ev_if (by omega) ?_
    have hbb : (s[i]'hlt).toNat < 256 := UInt8.toNat_lt _
    rw [bt_nat s i hlt, natsOf_drop s i hlt]
    have e1 : (((s[i]'hlt).toNat : Int)) % 4294967296 = (((s[i]'hlt).toNat : Nat) : Int) := by omega
    rw [e1, xor_u32 _ _ hx (by omega)]
    have hx' : x ^^^ (s[i]'hlt).toNat < 4294967296 := Nat.xor_lt_two_pow (n := 32) hx (by omega)
    unfold crcL
    exact impl_SumMore_l1 s i hlt hs _ 8 _ (by omega) hx' (ih (i + 1) _ (by omega) (crcBits_lt hx' 8))
theorem impl_SumMore_f (s : ByteArray) (hs : s.size ≤ 140737488355328) (x : Nat) (hx : x < 4294967296) :
    Ev (fun k => impl_SumMore.f k (x : Int) s) ((crcL (natsOf s) x : Nat) : Int) := by
  have := impl_SumMore_l0 s hs s.size 0 x (by omega) hx
  simpa [impl_SumMore.f] using this
theorem impl_SumOf_f (s : ByteArray) (hs : s.size ≤ 140737488355328) :
    Ev (fun k => impl_SumOf.f k s) ((crcL (natsOf s) 4294967295 : Nat) : Int) := by
  unfold impl_SumOf.f
  exact ev_bind (impl_SumMore_f s hs 4294967295 (by omega)) (ev_some rfl)
theorem impl_sumText_f (s : ByteArray) (hs : s.size ≤ 140737488355328) : Ev (fun k => impl_sumText.f k s) (sumS s) := by
  unfold impl_sumText.f
  exact ev_bind (impl_SumOf_f s hs) (ev_some (by rw [four_eq]; rfl))
theorem impl_Sealed_f (s : ByteArray) (hs : s.size ≤ 140737488351232) : Ev (fun k => impl_Sealed.f k s) (sealedV s) := by
  unfold impl_Sealed.f sealedV
  by_cases h : (s.size : Int) > 20000
  · rw [if_neg (by omega)]
    exact ev_if h (ev_some rfl)
  · refine ev_else h ?_
    rw [if_pos (by omega)]
    refine ev_bind (impl_sumText_f s (by omega)) ?_
    exact ev_if (by rw [sumS_size]; omega) (ev_some rfl)
theorem impl_varText_l0 : ∀ (n : Nat) (xs : List Nat), xs.length + n < 140737488355328 → Ev (fun k => impl_varText.l0 k (n : Int) (intsOf xs)) (strN (xs ++ vtl n)) := by
  intro n
  induction n using Nat.strongRecOn with
  | ind n ih =>
    intro xs hl
    refine ev_succ ?_
    simp only [impl_varText.l0]
    have hlen : (intsOf xs).length = xs.length := by simp [intsOf]
    by_cases h : 127 < n
    · refine ev_if (by omega) ?_
      refine ev_if (by rw [hlen]; omega) ?_
      have e1 : wrap64 (Int.tdiv (n : Int) 128) = ((n / 128 : Nat) : Int) := by rw [tdivp (Int.natCast_nonneg _)]; exact wrap_to (by omega) (by omega) (by omega)
      have e2 : wrap64 (128 + (Int.tmod (n : Int) 128)) % 256 = ((n % 128 + 128 : Nat) : Int) := by rw [tmodp (Int.natCast_nonneg _), wrap_to (y := ((n % 128 + 128 : Nat) : Int)) (by omega) (by omega) (by omega)]; omega
      have e3 : intsOf xs ++ [((n % 128 + 128 : Nat) : Int)] = intsOf (xs ++ [n % 128 + 128]) := by simp [intsOf]
      rw [e1, e2, e3, vtl_big h]
      have e4 : xs ++ (n % 128 + 128) :: vtl (n / 128) = (xs ++ [n % 128 + 128]) ++ vtl (n / 128) := by simp
      rw [e4]
      exact ih (n / 128) (by omega) _ (by rw [List.length_append, List.length_singleton]; omega)
    · refine ev_else (by omega) ?_
      refine ev_if (by rw [hlen]; omega) ?_
      have e2 : (n : Int) % 256 = (n : Int) := by omega
      have e3 : intsOf xs ++ [(n : Int)] = intsOf (xs ++ [n]) := by simp [intsOf]
      rw [e2, e3, vtl_small (by omega)]
      exact ev_some rfl
theorem impl_varText_f (n : Nat) (h : n < 140737488355328) : Ev (fun k => impl_varText.f k (n : Int)) (strN (vtl n)) := by
  have := impl_varText_l0 n [] (by simpa using h)
  simpa [impl_varText.f, intsOf] using this
theorem impl_octets_l0 (l : List Int) (hl : l.length ≤ 35184372088832) : ∀ (d i : Nat), i + d = l.length →
    Ev (fun k => impl_octets.l0 k ((l.take i).map fun x => x % 256) l (l.length : Int) (i : Int)) (octS l) := by
  intro d
  induction d with
  | zero =>
    intro i hi
    refine ev_succ ?_
    simp only [impl_octets.l0]
    refine ev_else (by omega) (ev_some ?_)
    rw [List.take_of_length_le (by omega)]
    rfl
  | succ d ih =>
    intro i hi
    refine ev_succ ?_
    simp only [impl_octets.l0]
    have hlen : ((l.take i).map fun x => x % 256).length = i := by rw [List.length_map, List.length_take]; omega
    refine ev_if (by omega) (ev_if (by omega) (ev_if (by omega) (ev_if (by rw [hlen]; omega) ?_)))
    rw [rd_nat, succ_i i (by omega)]
    have e : (l.take i).map (fun x => x % 256) ++ [l.getD i 0 % 256] = (l.take (i + 1)).map fun x => x % 256 := by
      have hlt : i < l.length := by omega
      rw [List.take_succ_eq_append_getElem hlt, List.map_append, List.getD_eq_getElem?_getD, List.getElem?_eq_getElem hlt]
      rfl
    rw [e]
    exact ih (i + 1) (by omega)
theorem impl_octets_f (l : List Int) (hl : l.length ≤ 35184372088832) : Ev (fun k => impl_octets.f k l) (octS l) := by
  have := impl_octets_l0 l hl l.length 0 (by omega)
  simpa [impl_octets.f] using this
theorem impl_inRange_f (x a b : Int) : impl_inRange.f x a b = some (decide (a ≤ x ∧ x ≤ b)) := by
  unfold impl_inRange.f
  by_cases h1 : a ≤ x <;> by_cases h2 : x ≤ b <;> simp [h1, h2]
theorem impl_areNodes_l0 (l : List Int) (hl : l.length ≤ 35184372088832) : ∀ (d i : Nat), i + d = l.length →
    Ev (fun k => impl_areNodes.l0 k l l (l.length : Int) (i : Int)) (riseL 1 4 (prevAt l i) (l.drop i)) := by
  intro d
  induction d with
  | zero =>
    intro i hi
    refine ev_succ ?_
    simp only [impl_areNodes.l0]
    refine ev_else (by omega) (ev_some ?_)
    rw [drop_end l i (by omega)]
    cases prevAt l i <;> rfl
  | succ d ih =>
    intro i hi
    refine ev_succ ?_
    simp only [impl_areNodes.l0, impl_isNode.f]
    refine ev_if (by omega) (ev_if (by omega) (ev_if (by omega) ?_))
    rw [impl_inRange_f]
    simp only [Option.bind_some]
    rw [riseL_at 1 4 l i (by omega), rd_nat, succ_i i (by omega)]
    by_cases hr : 1 ≤ l.getD i 0 ∧ l.getD i 0 ≤ 4
    · refine ev_if (by simp only [hr, and_self, decide_true]) ?_
      by_cases h0 : i = 0
      · refine ev_else (by omega) (ev_eq (ih (i + 1) (by omega)) ?_)
        subst h0
        simp only [hr, and_self, decide_true, if_true, Bool.true_and]
      · refine ev_if (by omega) ?_
        rw [pred_i i (by omega) (by omega), rd_nat]
        refine ev_if (by omega) (ev_if (by omega) ?_)
        by_cases hlt : l.getD (i - 1) 0 < l.getD i 0
        · refine ev_else (by omega) (ev_eq (ih (i + 1) (by omega)) ?_)
          simp only [hr, h0, hlt, and_self, decide_true, if_false, Bool.true_and]
        · refine ev_if (by omega) (ev_some ?_)
          simp only [hr, h0, hlt, and_self, decide_true, decide_false, if_false, Bool.and_false, Bool.false_and]
    · refine ev_else (by simp only [hr, decide_false]; simp) (ev_some ?_)
      simp only [hr, decide_false, Bool.false_and]
theorem impl_areNodes_f (l : List Int) (hl : l.length ≤ 35184372088832) : Ev (fun k => impl_areNodes.f k l) (riseL 1 4 none l) := by
  have := impl_areNodes_l0 l hl l.length 0 (by omega)
  simpa [impl_areNodes.f, prevAt] using this
theorem impl_ConfOk_f (l : List Int) (hl : l.length ≤ 35184372088832) : Ev (fun k => impl_ConfOk.f k l) (confOkB l) := by
  unfold impl_ConfOk.f confOkB
  by_cases h1 : 1 ≤ l.length
  · refine ev_if (by omega) ?_
    refine ev_bind (impl_areNodes_f l hl) (ev_some ?_)
    simp [h1]
  · refine ev_else (by omega) (ev_some ?_)
    simp [h1]
theorem impl_shortText_f (s : ByteArray) (hs : s.size ≤ 1000000000) : Ev (fun k => impl_shortText.f k s) (shS s) := by
  unfold impl_shortText.f shS
  refine ev_bind (impl_varText_f s.size (by omega)) (ev_if ?_ (ev_some rfl))
  rw [strN_size]; have := vtl_len s.size; omega
theorem impl_SnapText_f (i t : Int) (conf : List Int) (body : ByteArray) (hc : conf.length ≤ 1048576) : Ev (fun k => impl_SnapText.f k i t conf body) (snapTextV i t conf body) := by
  have no : snapOkB i t conf body = false → Ev (fun k => impl_SnapText.j0 k true i t conf body) (snapTextV i t conf body) := by
    intro hn
    refine ev_succ ?_
    simp only [impl_SnapText.j0]
    refine ev_if (by simp) (ev_some (congrArg some (if_neg ?_).symm))
    rw [hn]; simp
  unfold impl_SnapText.f impl_isIndex.f impl_isTerm.f
  rw [impl_inRange_f, impl_inRange_f]
  simp only [Option.bind_some]
  by_cases hi : 0 ≤ i ∧ i ≤ 1000000
  · refine ev_if (decide_eq_true hi) ?_
    by_cases ht : 0 ≤ t ∧ t ≤ 100000
    · refine ev_if (decide_eq_true ht) (ev_bind (impl_ConfOk_f conf (by omega)) ?_)
      by_cases hcf : confOkB conf = true
      · refine ev_if hcf ?_
        by_cases hb : body.size ≤ 20000
        · have hok : snapOkB i t conf body = true := by unfold snapOkB; rw [decide_eq_true hi, decide_eq_true ht, hcf, decide_eq_true hb]; rfl
          obtain ⟨s1, s2, s3, s4⟩ := snap_parts i t conf body hi ht hc hb
          have e1 := impl_varText_f i.toNat (by omega)
          have e2 := impl_varText_f t.toNat (by omega)
          rw [Int.toNat_of_nonneg hi.1] at e1
          rw [Int.toNat_of_nonneg ht.1] at e2
          refine ev_succ ?_
          simp only [impl_SnapText.j0]
          refine ev_else (by simp; omega) (ev_bind e1 (ev_bind e2 (ev_if (by omega) (ev_bind (impl_octets_f conf (by omega)) (ev_bind (impl_shortText_f _ (by rw [octS_size]; omega)) (ev_if (by rw [ByteArray.size_append]; omega) (ev_bind (impl_shortText_f body (by omega)) (ev_if (by rw [ByteArray.size_append, ByteArray.size_append]; omega) ?_))))))))
          have hsz : (snapBytes i t conf body).size ≤ 10000000 := by unfold snapBytes; rw [ByteArray.size_append, ByteArray.size_append, ByteArray.size_append]; omega
          refine ev_bind (impl_Sealed_f (snapBytes i t conf body) (by omega)) ?_
          unfold sealedV
          by_cases hl : (snapBytes i t conf body).size ≤ 20000
          · rw [if_pos hl]
            refine ev_if rfl ?_
            have h4 : (snapBytes i t conf body ++ sumS (snapBytes i t conf body)).size = (snapBytes i t conf body).size + 4 := by rw [ByteArray.size_append, sumS_size]
            by_cases hl2 : (snapBytes i t conf body).size ≤ 19996
            · exact ev_else (by rw [h4]; omega) (ev_some (congrArg some (if_pos ⟨hok, hl2⟩).symm))
            · exact ev_if (by rw [h4]; omega) (ev_some (congrArg some (if_neg (fun h => hl2 h.2)).symm))
          · rw [if_neg hl]
            exact ev_else (by simp) (ev_some (congrArg some (if_neg (fun h => hl (by omega))).symm))
        · have hd : decide ((body.size : Int) > 20000) = true := by simp; omega
          rw [hd]
          exact no (by unfold snapOkB; rw [decide_eq_false hb]; simp)
      · exact ev_else hcf (no (by unfold snapOkB; rw [Bool.eq_false_iff.2 hcf]; simp))
    · exact ev_else (by rw [decide_eq_false ht]; simp) (no (by unfold snapOkB; rw [decide_eq_false ht]; simp))
  · exact ev_else (by rw [decide_eq_false hi]; simp) (no (by unfold snapOkB; rw [decide_eq_false hi]; simp))
theorem spec_SumMore_l1 (s : ByteArray) (i : Nat) (hi : i < s.size) (hs : s.size ≤ 140737488355328) (r : Int) : ∀ (d x : Nat), d ≤ 8 → x < 4294967296 →
    Ev (fun k => spec_SumMore.l0 k ((crcBits d x : Nat) : Int) s ((i + 1 : Nat) : Int)) r → Ev (fun k => spec_SumMore.l1 k (x : Int) s (i : Int) ((8 - d : Nat) : Int)) r := by
  intro d
  induction d with
  | zero =>
    intro x _ hx h
    refine ev_succ ?_
    simp only [spec_SumMore.l1]
    refine ev_else (by omega) ?_
    rw [wrap_to (y := ((i + 1 : Nat) : Int)) (by omega) (by omega) (by omega)]
    exact h
  | succ d ih =>
    intro x hd hx h
    have hb : Int.tmod (x : Int) 2 = ((x % 2 : Nat) : Int) := by rw [tmodp (Int.natCast_nonneg _)]; omega
    refine ev_succ ?_
    simp only [spec_SumMore.l1]
    refine ev_if (by omega) ?_
    have e8 : wrap64 (((8 - (d + 1) : Nat) : Int) + 1) = ((8 - d : Nat) : Int) := wrap_to (by omega) (by omega) (by omega)
    rw [hb, e8]
    have e2 : Int.tdiv (x : Int) 2 % 4294967296 = ((x / 2 : Nat) : Int) := by rw [tdivp (Int.natCast_nonneg _)]; omega
    rw [e2]
    unfold crcBits at h
    have hlt := crcBit_lt hx
    by_cases hodd : x % 2 = 1
    · refine ev_if (by omega) ?_
      have e3 := xor_u32 (x / 2) 3558460437 (by omega) (by omega)
      have e4 : crcBit x = (x / 2) ^^^ 3558460437 := if_pos hodd
      rw [e4] at h hlt
      rw [show (3558460437 : Int) = ((3558460437 : Nat) : Int) from rfl, e3]
      exact ih _ (by omega) hlt h
    · refine ev_else (by omega) ?_
      have e4 : crcBit x = x / 2 := if_neg hodd
      rw [e4] at h hlt
      exact ih _ (by omega) hlt h
theorem spec_SumMore_l0 (s : ByteArray) (hs : s.size ≤ 140737488355328) : ∀ (d i x : Nat), i + d = s.size → x < 4294967296 →
    Ev (fun k => spec_SumMore.l0 k (x : Int) s (i : Int)) ((crcL ((natsOf s).drop i) x : Nat) : Int) := by
  intro d
  induction d with
  | zero =>
    intro i x hi hx
    refine ev_succ ?_
    simp only [spec_SumMore.l0]
    refine ev_else (by omega) ?_
    have : (natsOf s).drop i = [] := List.drop_eq_nil_of_le (by rw [natsOf_length]; omega)
    rw [this]
    exact ev_some rfl
  | succ d ih =>
    intro i x hi hx
    have hlt : i < s.size := by omega
    refine ev_succ ?_
    simp only [spec_SumMore.l0]
    refine ev_if (by omega) ?_
    refine ev_if (by omega) ?_
    have hbb : (s[i]'hlt).toNat < 256 := UInt8.toNat_lt _
    rw [bt_nat s i hlt, natsOf_drop s i hlt]
    have e1 : (((s[i]'hlt).toNat : Int)) % 4294967296 = (((s[i]'hlt).toNat : Nat) : Int) := by omega
    rw [e1, xor_u32 _ _ hx (by omega)]
    have hx' : x ^^^ (s[i]'hlt).toNat < 4294967296 := Nat.xor_lt_two_pow (n := 32) hx (by omega)
    unfold crcL
    exact spec_SumMore_l1 s i hlt hs _ 8 _ (by omega) hx' (ih (i + 1) _ (by omega) (crcBits_lt hx' 8))
theorem spec_SumMore_f (s : ByteArray) (hs : s.size ≤ 140737488355328) (x : Nat) (hx : x < 4294967296) :
    Ev (fun k => spec_SumMore.f k (x : Int) s) ((crcL (natsOf s) x : Nat) : Int) := by
  have := spec_SumMore_l0 s hs s.size 0 x (by omega) hx
  simpa [spec_SumMore.f] using this
theorem spec_SumOf_f (s : ByteArray) (hs : s.size ≤ 140737488355328) :
    Ev (fun k => spec_SumOf.f k s) ((crcL (natsOf s) 4294967295 : Nat) : Int) := by
  unfold spec_SumOf.f
  exact ev_bind (spec_SumMore_f s hs 4294967295 (by omega)) (ev_some rfl)
theorem spec_l02Four_f (x : Nat) : spec_l02Four.f (x : Int) = some (strN (fourN x)) := by
  unfold spec_l02Four.f
  rw [four_eq]
theorem spec_Sealed_f (s : ByteArray) (hs : s.size ≤ 140737488351232) : Ev (fun k => spec_Sealed.f k s) (sealedV s) := by
  unfold spec_Sealed.f sealedV
  by_cases h : (s.size : Int) > 20000
  · rw [if_neg (by omega)]
    exact ev_if h (ev_some rfl)
  · refine ev_else h ?_
    rw [if_pos (by omega)]
    refine ev_bind (spec_SumOf_f s (by omega)) (ev_bind0 (spec_l02Four_f _) ?_)
    have := sumS_size s
    unfold sumS at this
    exact ev_if (by rw [this]; omega) (ev_some rfl)
theorem spec_l01Var_l0 : ∀ (n : Nat) (xs : List Nat), xs.length + n < 140737488355328 → Ev (fun k => spec_l01Var.l0 k (n : Int) (intsOf xs)) (strN (xs ++ vtl n)) := by
  intro n
  induction n using Nat.strongRecOn with
  | ind n ih =>
    intro xs hl
    refine ev_succ ?_
    simp only [spec_l01Var.l0]
    have hlen : (intsOf xs).length = xs.length := by simp [intsOf]
    by_cases h : 127 < n
    · refine ev_if (by omega) ?_
      refine ev_if (by rw [hlen]; omega) ?_
      have e1 : wrap64 (Int.tdiv (n : Int) 128) = ((n / 128 : Nat) : Int) := by rw [tdivp (Int.natCast_nonneg _)]; exact wrap_to (by omega) (by omega) (by omega)
      have e2 : wrap64 ((Int.tmod (n : Int) 128) + 128) % 256 = ((n % 128 + 128 : Nat) : Int) := by rw [tmodp (Int.natCast_nonneg _), wrap_to (y := ((n % 128 + 128 : Nat) : Int)) (by omega) (by omega) (by omega)]; omega
      have e3 : intsOf xs ++ [((n % 128 + 128 : Nat) : Int)] = intsOf (xs ++ [n % 128 + 128]) := by simp [intsOf]
      rw [e1, e2, e3, vtl_big h]
      have e4 : xs ++ (n % 128 + 128) :: vtl (n / 128) = (xs ++ [n % 128 + 128]) ++ vtl (n / 128) := by simp
      rw [e4]
      exact ih (n / 128) (by omega) _ (by rw [List.length_append, List.length_singleton]; omega)
    · refine ev_else (by omega) ?_
      refine ev_if (by rw [hlen]; omega) ?_
      have e2 : (n : Int) % 256 = (n : Int) := by omega
      have e3 : intsOf xs ++ [(n : Int)] = intsOf (xs ++ [n]) := by simp [intsOf]
      rw [e2, e3, vtl_small (by omega)]
      exact ev_some rfl
theorem spec_l01Var_f (n : Nat) (h : n < 140737488355328) : Ev (fun k => spec_l01Var.f k (n : Int)) (strN (vtl n)) := by
  have := spec_l01Var_l0 n [] (by simpa using h)
  simpa [spec_l01Var.f, intsOf] using this
theorem spec_l01In_f (x a b : Int) : spec_l01In.f x a b = some (decide (a ≤ x ∧ x ≤ b)) := by
  unfold spec_l01In.f
  by_cases h1 : a ≤ x <;> by_cases h2 : x ≤ b <;> simp [h1, h2]
theorem spec_l05Rise_l0 (l : List Int) (a b : Int) (hl : l.length ≤ 35184372088832) : ∀ (d i : Nat), i + d = l.length →
    Ev (fun k => spec_l05Rise.l0 k l a b (i : Int)) (riseL a b (prevAt l i) (l.drop i)) := by
  intro d
  induction d with
  | zero =>
    intro i hi
    refine ev_succ ?_
    simp only [spec_l05Rise.l0]
    refine ev_else (by omega) (ev_some ?_)
    rw [drop_end l i (by omega)]
    cases prevAt l i <;> rfl
  | succ d ih =>
    intro i hi
    refine ev_succ ?_
    simp only [spec_l05Rise.l0]
    refine ev_if (by omega) (ev_if (by omega) (ev_bind0 (spec_l01In_f _ _ _) ?_))
    rw [riseL_at a b l i (by omega), rd_nat, succ_i i (by omega)]
    by_cases hr : a ≤ l.getD i 0 ∧ l.getD i 0 ≤ b
    · refine ev_if (by simp only [hr, and_self, decide_true]) ?_
      by_cases h0 : i = 0
      · refine ev_else (by omega) (ev_eq (ih (i + 1) (by omega)) ?_)
        subst h0
        simp only [hr, and_self, decide_true, if_true, Bool.true_and]
      · refine ev_if (by omega) ?_
        rw [pred_i i (by omega) (by omega), rd_nat]
        refine ev_if (by omega) (ev_if (by omega) ?_)
        by_cases hlt : l.getD (i - 1) 0 < l.getD i 0
        · refine ev_else (by omega) (ev_eq (ih (i + 1) (by omega)) ?_)
          simp only [hr, h0, hlt, and_self, decide_true, if_false, Bool.true_and]
        · refine ev_if (by omega) (ev_some ?_)
          simp only [hr, h0, hlt, and_self, decide_true, decide_false, if_false, Bool.and_false, Bool.false_and]
    · refine ev_else (by simp only [hr, decide_false]; simp) (ev_some ?_)
      simp only [hr, decide_false, Bool.false_and]
theorem spec_l05Rise_f (l : List Int) (a b : Int) (hl : l.length ≤ 35184372088832) : Ev (fun k => spec_l05Rise.f k l a b) (riseL a b none l) := by
  have := spec_l05Rise_l0 l a b hl l.length 0 (by omega)
  simpa [spec_l05Rise.f, prevAt] using this
theorem riseL_short : ∀ (l : List Int) (p : Option Int) (a b : Int), riseL a b p l = true → (∀ y, p = some y → a ≤ y) → (l.length : Int) ≤ (match p with | none => b - a + 1 | some y => b - y) ∨ l = [] := by
  intro l
  induction l with
  | nil => intro _ _ _ _ _; exact .inr rfl
  | cons x l ih =>
    intro p a b h hp
    left
    simp only [riseL, Bool.and_eq_true, decide_eq_true_eq] at h
    obtain ⟨hr, hq, ht⟩ := h
    have := ih (some x) a b ht (fun y hy => by cases hy; exact hr.1)
    have hx : (l.length : Int) ≤ b - x := by
      rcases this with h | h
      · exact h
      · subst h; simp; omega
    rw [List.length_cons]
    cases p with
    | none => simp only; omega
    | some y => have hy : y < x := by simpa using hq
                simp only; omega
theorem spec_ConfOk_f (l : List Int) (hl : l.length ≤ 35184372088832) : Ev (fun k => spec_ConfOk.f k l) (confOkB l) := by
  unfold spec_ConfOk.f confOkB
  refine ev_bind0 (spec_l01In_f _ _ _) ?_
  by_cases h1 : 1 ≤ l.length
  · by_cases h4 : l.length ≤ 4
    · refine ev_if (by simp; omega) ?_
      refine ev_bind (spec_l05Rise_f l 1 4 hl) (ev_some ?_)
      simp [h1]
    · refine ev_else (by simp; omega) (ev_some ?_)
      by_cases h : riseL 1 4 none l = true
      · rcases riseL_short l none 1 4 h (by simp) with h' | h'
        · simp only at h'; omega
        · subst h'; simp at h1
      · simp [h]
  · refine ev_else (by simp; omega) (ev_some ?_)
    simp [h1]
theorem spec_ConfText_l0 (l : List Int) (hl : l.length ≤ 35184372088832) : ∀ (d i : Nat), i + d = l.length →
    Ev (fun k => spec_ConfText.l0 k l ((l.take i).map fun x => x % 256) (i : Int)) (octS l, true) := by
  intro d
  induction d with
  | zero =>
    intro i hi
    refine ev_succ ?_
    simp only [spec_ConfText.l0]
    refine ev_else (by omega) (ev_some ?_)
    rw [List.take_of_length_le (by omega)]
    rfl
  | succ d ih =>
    intro i hi
    refine ev_succ ?_
    simp only [spec_ConfText.l0]
    have hlen : ((l.take i).map fun x => x % 256).length = i := by rw [List.length_map, List.length_take]; omega
    refine ev_if (by omega) (ev_if (by omega) (ev_if (by rw [hlen]; omega) ?_))
    rw [rd_nat, succ_i i (by omega)]
    have e : (l.take i).map (fun x => x % 256) ++ [l.getD i 0 % 256] = (l.take (i + 1)).map fun x => x % 256 := by
      have hlt : i < l.length := by omega
      rw [List.take_succ_eq_append_getElem hlt, List.map_append, List.getD_eq_getElem?_getD, List.getElem?_eq_getElem hlt]
      rfl
    rw [e]
    exact ih (i + 1) (by omega)
theorem spec_ConfText_f (l : List Int) (hl : l.length ≤ 35184372088832) : Ev (fun k => spec_ConfText.f k l) (confTextV l) := by
  unfold spec_ConfText.f confTextV
  refine ev_bind (spec_ConfOk_f l hl) ?_
  by_cases h : confOkB l = true
  · rw [if_pos h]
    refine ev_if h ?_
    have := spec_ConfText_l0 l hl l.length 0 (by omega)
    simpa using this
  · rw [if_neg h]
    exact ev_else h (ev_some rfl)
theorem spec_l05Short_f (s : ByteArray) (hs : s.size ≤ 1000000000) : Ev (fun k => spec_l05Short.f k s) (shS s) := by
  unfold spec_l05Short.f shS
  refine ev_bind (spec_l01Var_f s.size (by omega)) (ev_if ?_ (ev_some rfl))
  rw [strN_size]; have := vtl_len s.size; omega
theorem spec_SnapText_f (i t : Int) (conf : List Int) (body : ByteArray) (hc : conf.length ≤ 1048576) : Ev (fun k => spec_SnapText.f k i t conf body) (snapTextV i t conf body) := by
  have no : ∀ z, snapOkB i t conf body = false → Ev (fun k => spec_SnapText.j0 k z true i t conf body) (snapTextV i t conf body) := by
    intro z hn
    refine ev_succ ?_
    simp only [spec_SnapText.j0]
    refine ev_if (by simp) (ev_some (congrArg some (if_neg ?_).symm))
    rw [hn]; simp
  unfold spec_SnapText.f
  refine ev_bind (spec_ConfText_f conf (by omega)) ?_
  unfold confTextV
  by_cases hcf : confOkB conf = true
  · rw [if_pos hcf]
    refine ev_if rfl (ev_bind0 (spec_l01In_f _ _ _) ?_)
    by_cases hi : 0 ≤ i ∧ i ≤ 1000000
    · refine ev_if (decide_eq_true hi) (ev_bind0 (spec_l01In_f _ _ _) ?_)
      by_cases ht : 0 ≤ t ∧ t ≤ 100000
      · refine ev_if (decide_eq_true ht) ?_
        by_cases hb : body.size ≤ 20000
        · have hok : snapOkB i t conf body = true := by unfold snapOkB; rw [decide_eq_true hi, decide_eq_true ht, hcf, decide_eq_true hb]; rfl
          obtain ⟨s1, s2, s3, s4⟩ := snap_parts i t conf body hi ht hc hb
          have e1 := spec_l01Var_f i.toNat (by omega)
          have e2 := spec_l01Var_f t.toNat (by omega)
          rw [Int.toNat_of_nonneg hi.1] at e1
          rw [Int.toNat_of_nonneg ht.1] at e2
          refine ev_succ ?_
          simp only [spec_SnapText.j0]
          refine ev_else (by simp; omega) (ev_bind e1 (ev_bind e2 (ev_if (by omega) (ev_bind (spec_l05Short_f _ (by rw [octS_size]; omega)) (ev_if (by rw [ByteArray.size_append]; omega) (ev_bind (spec_l05Short_f body (by omega)) (ev_if (by rw [ByteArray.size_append, ByteArray.size_append]; omega) ?_)))))))
          have hsz : (snapBytes i t conf body).size ≤ 10000000 := by unfold snapBytes; rw [ByteArray.size_append, ByteArray.size_append, ByteArray.size_append]; omega
          have hsw : wrap64 (((snapBytes i t conf body).size : Int) + 4) = ((snapBytes i t conf body).size : Int) + 4 := wid (by omega) (by omega)
          have hsb : (((strN (vtl i.toNat) ++ strN (vtl t.toNat)) ++ shS (octS conf)) ++ shS body) = snapBytes i t conf body := rfl
          rw [hsb, hsw]
          clear hsw
          by_cases hl2 : (snapBytes i t conf body).size ≤ 19996
          · refine ev_else (by omega) (ev_bind (spec_Sealed_f (snapBytes i t conf body) (by omega)) ?_)
            refine ev_some ?_
            unfold sealedV snapTextV
            rw [if_pos (show (snapBytes i t conf body).size ≤ 20000 by omega), if_pos ⟨hok, hl2⟩]
          · exact ev_if (by omega) (ev_some (congrArg some (if_neg (fun h => hl2 h.2)).symm))
        · have hd : decide ((body.size : Int) > 20000) = true := by simp; omega
          rw [hd]
          exact no _ (by unfold snapOkB; rw [decide_eq_false hb]; simp)
      · exact ev_else (by rw [decide_eq_false ht]; simp) (no _ (by unfold snapOkB; rw [decide_eq_false ht]; simp))
    · exact ev_else (by rw [decide_eq_false hi]; simp) (no _ (by unfold snapOkB; rw [decide_eq_false hi]; simp))
  · rw [if_neg hcf]
    exact ev_else (by simp) (no _ (by unfold snapOkB; rw [Bool.eq_false_iff.2 hcf]; simp))
theorem laws_eqIntS_l0 (a b : List Int) (hl : a.length ≤ 35184372088832) (hab : a.length = b.length) : ∀ (d i : Nat), i + d = a.length →
    Ev (fun k => laws_eqIntS.l0 k a b (i : Int)) (decide (a.drop i = b.drop i)) := by
  intro d
  induction d with
  | zero =>
    intro i hi
    refine ev_succ ?_
    simp only [laws_eqIntS.l0]
    refine ev_else (by omega) (ev_some ?_)
    rw [drop_end a i (by omega), drop_end b i (by omega)]
    simp
  | succ d ih =>
    intro i hi
    refine ev_succ ?_
    simp only [laws_eqIntS.l0]
    refine ev_if (by omega) (ev_if (by omega) (ev_if (by omega) ?_))
    rw [rd_nat, rd_nat, drop_getD a 0 i (by omega), drop_getD b 0 i (by omega), succ_i i (by omega)]
    by_cases h : a.getD i 0 = b.getD i 0
    · refine ev_if h (ev_eq (ih (i + 1) (by omega)) ?_)
      rw [h]; simp
    · refine ev_else h (ev_some ?_)
      have : ¬ (a.getD i 0 :: a.drop (i + 1) = b.getD i 0 :: b.drop (i + 1)) := fun e => h (List.cons.inj e).1
      simp only [decide_eq_false this]
theorem laws_eqIntS_f (a b : List Int) (hl : a.length ≤ 35184372088832) : Ev (fun k => laws_eqIntS.f k a b) (decide (a = b)) := by
  unfold laws_eqIntS.f
  by_cases h : a.length = b.length
  · refine ev_if (by omega) ?_
    have := laws_eqIntS_l0 a b hl h a.length 0 (by omega)
    simpa using this
  · refine ev_else (by omega) (ev_some ?_)
    have : ¬ a = b := fun e => h (by rw [e])
    simp [this]
theorem laws_toIntS_l0 (l : List Int) (hl : l.length ≤ 35184372088832) : ∀ (d i : Nat), i + d = l.length →
    Ev (fun k => laws_toIntS.l0 k l (l.take i ++ List.replicate (l.length - i) 0) (i : Int)) l := by
  intro d
  induction d with
  | zero =>
    intro i hi
    refine ev_succ ?_
    simp only [laws_toIntS.l0]
    refine ev_else (by omega) (ev_some ?_)
    have e : i = l.length := by omega
    subst e
    simp
  | succ d ih =>
    intro i hi
    refine ev_succ ?_
    simp only [laws_toIntS.l0]
    refine ev_if (by omega) (ev_if (by omega) (ev_if (by rw [copy_len _ _ _ (by omega)]; omega) ?_))
    rw [rd_nat, toNat_nat, copy_step l 0 0 i (by omega), succ_i i (by omega)]
    exact ih (i + 1) (by omega)
theorem laws_toIntS_f (l : List Int) (hl : l.length ≤ 35184372088832) : Ev (fun k => laws_toIntS.f k l) l := by
  unfold laws_toIntS.f
  refine ev_if (by omega) (ev_if (by rw [toNat_nat]; exact hl) ?_)
  have := laws_toIntS_l0 l hl l.length 0 (by omega)
  simpa using this
theorem laws_toSnap_f (i t : Int) (conf : List Int) (body : ByteArray) (hc : conf.length ≤ 1048576) : Ev (fun k => laws_toSnap.f k i t conf body) (i, t, conf, body) := by
  unfold laws_toSnap.f
  exact ev_bind (laws_toIntS_f conf (by omega)) (ev_some rfl)
theorem laws_eqSnap_f (i t : Int) (conf : List Int) (body : ByteArray) (hc : conf.length ≤ 1048576) : Ev (fun k => laws_eqSnap.f k i t conf body i t conf body) true := by
  unfold laws_eqSnap.f
  exact ev_if rfl (ev_if rfl (ev_bind (laws_eqIntS_f conf conf (by omega)) (ev_if (by simp) (ev_if rfl (ev_some rfl)))))
theorem laws_szSnap_f (i t : Int) (conf : List Int) (body : ByteArray) (hc : conf.length ≤ maxLen) (hb : body.size ≤ maxLen) : ∃ r, laws_szSnap.f i t conf body 1048576 = some r ∧ (r < 0 ∨ conf.length ≤ 1048576 ∧ body.size ≤ 1048576) := by
  unfold maxLen at hc hb
  unfold laws_szSnap.f laws_szIntS.f
  rw [wid (x := 1048576 - (conf.length : Int)) (by omega) (by omega)]
  by_cases h : 1048576 - (conf.length : Int) < 0
  · exact ⟨-1, by simp [h], .inl (by omega)⟩
  · rw [if_neg h]
    simp only [Option.bind_some]
    rw [if_neg h, wid (x := 1048576 - (conf.length : Int) - (body.size : Int)) (by omega) (by omega)]
    by_cases h2 : 1048576 - (conf.length : Int) - (body.size : Int) < 0
    · exact ⟨-1, by rw [if_pos h2], .inl (by omega)⟩
    · exact ⟨_, by rw [if_neg h2], .inr ⟨by omega, by omega⟩⟩
theorem FnExactSnapText (i t : Int) (conf : List Int) (body : ByteArray) (_ : (Lit.int .i64 i).wf = true) (_ : (Lit.int .i64 t).wf = true) (hc : conf.length ≤ maxLen ∧ ∀ x ∈ conf, (Lit.int .i64 x).wf = true) (hb : body.size ≤ maxLen) : ∃ k, laws_FnExactSnapText.f k i t conf body = some true := by
  refine Ev.rounds ?_
  unfold laws_FnExactSnapText.f
  obtain ⟨r, hr, hcase⟩ := laws_szSnap_f i t conf body hc.1 hb
  refine ev_bind0 hr ?_
  by_cases hneg : r < 0
  · exact ev_if hneg (ev_some rfl)
  refine ev_else hneg ?_
  have hlen : conf.length ≤ 1048576 := by omega
  refine ev_bind (laws_toSnap_f i t conf body hlen) (ev_bind (spec_SnapText_f i t conf body hlen) (ev_bind (laws_toSnap_f i t conf body hlen) (ev_bind (impl_SnapText_f i t conf body hlen) (ev_if rfl ?_))))
  refine ev_else (by simp) (ev_bind (laws_toSnap_f i t conf body hlen) (ev_bind (laws_eqSnap_f i t conf body hlen) (ev_if rfl (ev_some rfl))))

end Go.Proofs.Ytidfhfaekdahpaa.Pure
