/- For every drawn text: its sealed form with one byte turned into another is not unsealed; sealed and unsealed it is the text; and the sum goes on. -/
import Derived.Test.YtgdcfkhpeakbfaaQFnTurnedx9
namespace Go.Proofs.Ytgdcfkhpeakbfaa.Pure
open Go.RowKit Go.Proofs.Ytgdcfkhpeakbfaa.QFnTurned Go.Proofs.YtgdcfkhpeakbfaaW.PrintWords Go.Proofs.YtgdcfkhpeakbfaaW.PrintLast

set_option linter.unusedVariables false
set_option linter.unusedSimpArgs false
/-! small words on rounds -/
theorem wid {x : Int} (h0 : -9223372036854775808 ≤ x) (h1 : x ≤ 9223372036854775807) : wrap64 x = x := by
  unfold wrap64; omega
theorem wrap_to {x y : Int} (h : x = y) (h0 : -9223372036854775808 ≤ y) (h1 : y ≤ 9223372036854775807) : wrap64 x = y := by
  rw [h]; exact wid h0 h1
theorem ev_some {α : Type} {o : Option α} {r : α} (h : o = some r) : Ev (fun _ => o) r := ⟨0, fun _ _ => h⟩
theorem ev_succ {α : Type} {g : Nat → Option α} {r : α} (h : Ev (fun k => g (k + 1)) r) : Ev g r := Ev.step (fun _ => rfl) h
theorem ev_if {α : Type} {c : Prop} [Decidable c] {f g : Nat → Option α} {r : α} (h : c) (k : Ev f r) : Ev (fun n => if c then f n else g n) r := by
  simp only [if_pos h]; exact k
theorem ev_else {α : Type} {c : Prop} [Decidable c] {f g : Nat → Option α} {r : α} (h : ¬ c) (k : Ev g r) : Ev (fun n => if c then f n else g n) r := by
  simp only [if_neg h]; exact k
theorem ev_bind0 {α β : Type} {o : Option α} {f : Nat → α → Option β} {a : α} {r : β} (h : o = some a) (k : Ev (fun n => f n a) r) : Ev (fun n => o.bind (f n)) r := by
  subst h; exact k
theorem ev_bind {α β : Type} {g : Nat → Option α} {f : Nat → α → Option β} {a : α} {r : β} (h : Ev g a) (k : Ev (fun n => f n a) r) : Ev (fun n => (g n).bind (f n)) r := Ev.bind h k
theorem ev_eq {α : Type} {g : Nat → Option α} {a b : α} (h : Ev g a) (e : a = b) : Ev g b := e ▸ h
theorem tdivp {a b : Int} (h : 0 ≤ a) : Int.tdiv a b = a / b := Int.tdiv_eq_ediv_of_nonneg h
theorem tmodp {a b : Int} (h : 0 ≤ a) : Int.tmod a b = a % b := Int.tmod_eq_emod_of_nonneg h
theorem toList_iff (a b : ByteArray) : a.toList = b.toList ↔ a = b := by
  rw [ByteArray.toList_eq, ByteArray.toList_eq]
  exact ⟨fun h => ByteArray.ext (Array.toList_inj.mp h), fun h => by rw [h]⟩
/-! the sum, over numbers -/
def crcBit (x : Nat) : Nat := if x % 2 = 1 then (x / 2) ^^^ 3558460437 else x / 2
def crcBits : Nat → Nat → Nat
  | 0, x => x
  | n + 1, x => crcBits n (crcBit x)
def crcL : List Nat → Nat → Nat
  | [], x => x
  | b :: bs, x => crcL bs (crcBits 8 (x ^^^ b))
theorem xor_u32 (a b : Nat) (ha : a < 4294967296) (hb : b < 4294967296) : Go.bits .xor .u32 (a : Int) (b : Int) = ((a ^^^ b : Nat) : Int) := by
  have h : a ^^^ b < 2 ^ 32 := Nat.xor_lt_two_pow ha hb
  have e1 : a % 2 ^ 32 = a := Nat.mod_eq_of_lt ha
  have e2 : b % 2 ^ 32 = b := Nat.mod_eq_of_lt hb
  have e3 : IntKind.u32.bits = 32 := rfl
  simp only [Go.bits, e3, BitVec.ofInt_natCast, BitVec.toNat_xor, BitVec.toNat_ofNat, e1, e2, IntKind.wrap_u32]
  omega
theorem and_one_u32 (a : Nat) (ha : a < 4294967296) : Go.bits .and .u32 (a : Int) 1 = ((a % 2 : Nat) : Int) := by
  have e1 : a % 2 ^ 32 = a := Nat.mod_eq_of_lt ha
  have e3 : IntKind.u32.bits = 32 := rfl
  have e4 : (1 : Int) = ((1 : Nat) : Int) := rfl
  rw [e4]
  simp only [Go.bits, e3, BitVec.ofInt_natCast, BitVec.toNat_and, BitVec.toNat_ofNat, e1, IntKind.wrap_u32]
  have : a &&& (1 % 2 ^ 32) = a % 2 := Nat.and_one_is_mod a
  rw [this]
  omega
theorem crcBit_lt {x : Nat} (h : x < 4294967296) : crcBit x < 4294967296 := by
  unfold crcBit
  split
  · exact Nat.xor_lt_two_pow (n := 32) (by omega) (by omega)
  · omega
theorem crcBits_lt {x : Nat} (h : x < 4294967296) : ∀ n, crcBits n x < 4294967296
  | 0 => h
  | n + 1 => by
    unfold crcBits
    exact crcBits_lt (crcBit_lt h) n
def natsOf (s : ByteArray) : List Nat := s.data.toList.map UInt8.toNat
theorem natsOf_length (s : ByteArray) : (natsOf s).length = s.size := by simp [natsOf]
theorem bt_nat (s : ByteArray) (i : Nat) (h : i < s.size) : bt s (i : Int) = ((s[i]'h).toNat : Int) := by
  unfold bt; simp [h]
theorem natsOf_drop (s : ByteArray) (i : Nat) (h : i < s.size) : (natsOf s).drop i = (s[i]'h).toNat :: (natsOf s).drop (i + 1) := by
  have hl : i < (natsOf s).length := by rw [natsOf_length]; exact h
  rw [List.drop_eq_getElem_cons hl]
  congr 1
  simp [natsOf]
  rfl
theorem natsOf_lt (s : ByteArray) : ∀ x ∈ natsOf s, x < 256 := by
  intro x hx
  simp only [natsOf, List.mem_map] at hx
  obtain ⟨b, _, rfl⟩ := hx
  exact b.toNat_lt
theorem crcL_lt : ∀ (l : List Nat) (x : Nat), (∀ b ∈ l, b < 256) → x < 4294967296 → crcL l x < 4294967296
  | [], _, _, h => h
  | b :: bs, x, hb, h => by
    unfold crcL
    have h1 := hb b (List.mem_cons_self ..)
    exact crcL_lt bs _ (fun c hc => hb c (List.mem_cons_of_mem _ hc)) (crcBits_lt (Nat.xor_lt_two_pow (n := 32) h (by omega)) 8)
/-! a number in bytes -/
def vtl (n : Nat) : List Nat := if h : 127 < n then (n % 128 + 128) :: vtl (n / 128) else [n]
termination_by n
decreasing_by omega
theorem vtl_big {n : Nat} (h : 127 < n) : vtl n = (n % 128 + 128) :: vtl (n / 128) := by rw [vtl, dif_pos h]
theorem vtl_small {n : Nat} (h : n ≤ 127) : vtl n = [n] := by rw [vtl, dif_neg (by omega)]
def intsOf (l : List Nat) : List Int := l.map fun (n : Nat) => (n : Int)
theorem vtl_lt : ∀ (n : Nat), ∀ b ∈ vtl n, b < 256 := by
  intro n
  induction n using Nat.strongRecOn with
  | ind n ih =>
    intro b hb
    by_cases h : 127 < n
    · rw [vtl_big h] at hb
      rcases List.mem_cons.1 hb with rfl | hb
      · omega
      · exact ih _ (by omega) b hb
    · rw [vtl_small (by omega)] at hb
      have : b = n := by simpa using hb
      omega
def strN (l : List Nat) : ByteArray := strOfNums (intsOf l)
theorem natsOf_strN (l : List Nat) (h : ∀ b ∈ l, b < 256) : natsOf (strN l) = l := by
  unfold natsOf strN strOfNums intsOf
  simp only [List.map_map]
  conv => rhs; rw [← List.map_id l]
  apply List.map_congr_left
  intro b hb
  have := h b hb
  simp [UInt8.toNat_ofNat, Nat.mod_eq_of_lt this]
theorem strN_natsOf (s : ByteArray) : strN (natsOf s) = s := by
  unfold natsOf strN strOfNums intsOf
  apply ByteArray.ext
  apply Array.toList_inj.1
  simp [List.map_map, Function.comp_def]
theorem strN_inj {a b : List Nat} (ha : ∀ x ∈ a, x < 256) (hb : ∀ x ∈ b, x < 256) (h : strN a = strN b) : a = b := by
  rw [← natsOf_strN a ha, h, natsOf_strN b hb]
theorem natsOf_inj {a b : ByteArray} (h : natsOf a = natsOf b) : a = b := by
  rw [← strN_natsOf a, h, strN_natsOf]
theorem natsOf_append (a b : ByteArray) : natsOf (a ++ b) = natsOf a ++ natsOf b := by
  simp [natsOf]
theorem strN_append (a b : List Nat) : strN (a ++ b) = strN a ++ strN b := by
  unfold strN strOfNums intsOf
  apply ByteArray.ext
  apply Array.toList_inj.1
  simp
theorem strN_size (l : List Nat) : (strN l).size = l.length := by
  rw [← data_length]
  simp [strN, strOfNums, intsOf]
theorem natsOf_extract (s : ByteArray) (i j : Nat) : natsOf (s.extract i j) = ((natsOf s).take j).drop i := by
  unfold natsOf
  rw [ByteArray.data_extract, Array.toList_extract, List.extract_eq_take_drop, List.map_take, List.map_drop, List.drop_take]
theorem vtl_len (n : Nat) : (vtl n).length ≤ n + 1 := by
  induction n using Nat.strongRecOn with
  | ind n ih =>
    by_cases h : 127 < n
    · rw [vtl_big h, List.length_cons]
      have := ih (n / 128) (by omega)
      omega
    · rw [vtl_small (by omega)]; simp
def fourN (x : Nat) : List Nat := [x / 16777216 % 256, x / 65536 % 256, x / 256 % 256, x % 256]
def sumS (s : ByteArray) : ByteArray := strN (fourN (crcL (natsOf s) 4294967295))
theorem sumS_size (s : ByteArray) : (sumS s).size = 4 := by unfold sumS; rw [strN_size]; rfl
theorem four_eq (x : Nat) : strOfNums (([((x : Int) / 16777216) % 256, ((x : Int) / 65536) % 256, ((x : Int) / 256) % 256, ((x : Int)) % 256] : List Int)) = strN (fourN x) := by
  unfold strN fourN intsOf
  simp
def sealedV (s : ByteArray) : ByteArray × Bool := if s.size ≤ 20000 then (s ++ sumS s, true) else (⟨#[]⟩, false)
def unsealedV (s : ByteArray) : ByteArray × Bool :=
  if 4 ≤ s.size ∧ s.size ≤ 20004 ∧ sumS (s.extract 0 (s.size - 4)) = s.extract (s.size - 4) s.size then (s.extract 0 (s.size - 4), true) else (⟨#[]⟩, false)
theorem impl_SumMore_l1 (s : ByteArray) (i : Nat) (hi : i < s.size) (hs : s.size ≤ 140737488355328) (r : Int) : ∀ (d x : Nat), d ≤ 8 → x < 4294967296 →
    Ev (fun k => impl_SumMore.l0 k ((crcBits d x : Nat) : Int) s ((i + 1 : Nat) : Int)) r → Ev (fun k => impl_SumMore.l1 k (x : Int) s (i : Int) ((8 - d : Nat) : Int)) r := by
  intro d
  induction d with
  | zero =>
    intro x _ hx h
    refine ev_succ ?_
    simp only [impl_SumMore.l1]
    refine ev_else (by omega) ?_
    rw [wrap_to (y := ((i + 1 : Nat) : Int)) (by omega) (by omega) (by omega)]
    exact h
  | succ d ih =>
    intro x hd hx h
    have hb := and_one_u32 x hx
    refine ev_succ ?_
    simp only [impl_SumMore.l1]
    refine ev_if (by omega) ?_
    have e8 : wrap64 (((8 - (d + 1) : Nat) : Int) + 1) = ((8 - d : Nat) : Int) := wrap_to (by omega) (by omega) (by omega)
    rw [hb, e8]
    have e2 : (x : Int) / 2 = ((x / 2 : Nat) : Int) := by omega
    rw [e2]
    unfold crcBits at h
    have hlt := crcBit_lt hx
    by_cases hodd : x % 2 = 1
    · refine ev_if (by omega) ?_
      have e3 := xor_u32 (x / 2) 3558460437 (by omega) (by omega)
      have e4 : crcBit x = (x / 2) ^^^ 3558460437 := if_pos hodd
      rw [e4] at h hlt
      rw [show (3558460437 : Int) = ((3558460437 : Nat) : Int) from rfl, e3]
      exact ih _ (by omega) hlt h
    · refine ev_else (by omega) ?_
      have e4 : crcBit x = x / 2 := if_neg hodd
      rw [e4] at h hlt
      exact ih _ (by omega) hlt h
theorem impl_SumMore_l0 (s : ByteArray) (hs : s.size ≤ 140737488355328) : ∀ (d i x : Nat), i + d = s.size → x < 4294967296 →
    Ev (fun k => impl_SumMore.l0 k (x : Int) s (i : Int)) ((crcL ((natsOf s).drop i) x : Nat) : Int) := by
  intro d
  induction d with
  | zero =>
    intro i x hi hx
    refine ev_succ ?_
    simp only [impl_SumMore.l0]
    refine ev_else (by omega) ?_
    have : (natsOf s).drop i = [] := List.drop_eq_nil_of_le (by rw [natsOf_length]; omega)
    rw [this]
    exact ev_some rfl
  | succ d ih =>
    intro i x hi hx
    have hlt : i < s.size := by omega
    refine ev_succ ?_
    simp only [impl_SumMore.l0]
    refine ev_if (by omega) ?_
    refine ev_if (by omega) ?_
    have hbb : (s[i]'hlt).toNat < 256 := UInt8.toNat_lt _
    rw [bt_nat s i hlt, natsOf_drop s i hlt]
    have e1 : (((s[i]'hlt).toNat : Int)) % 4294967296 = (((s[i]'hlt).toNat : Nat) : Int) := by omega
    rw [e1, xor_u32 _ _ hx (by omega)]
    have hx' : x ^^^ (s[i]'hlt).toNat < 4294967296 := Nat.xor_lt_two_pow (n := 32) hx (by omega)
    unfold crcL
    exact impl_SumMore_l1 s i hlt hs _ 8 _ (by omega) hx' (ih (i + 1) _ (by omega) (crcBits_lt hx' 8))
theorem impl_SumMore_f (s : ByteArray) (hs : s.size ≤ 140737488355328) (x : Nat) (hx : x < 4294967296) :
    Ev (fun k => impl_SumMore.f k (x : Int) s) ((crcL (natsOf s) x : Nat) : Int) := by
  have := impl_SumMore_l0 s hs s.size 0 x (by omega) hx
  simpa [impl_SumMore.f] using this
theorem impl_SumOf_f (s : ByteArray) (hs : s.size ≤ 140737488355328) :
    Ev (fun k => impl_SumOf.f k s) ((crcL (natsOf s) 4294967295 : Nat) : Int) := by
  unfold impl_SumOf.f
  exact ev_bind (impl_SumMore_f s hs 4294967295 (by omega)) (ev_some rfl)
theorem impl_sumText_f (s : ByteArray) (hs : s.size ≤ 140737488355328) : Ev (fun k => impl_sumText.f k s) (sumS s) := by
  unfold impl_sumText.f
  exact ev_bind (impl_SumOf_f s hs) (ev_some (by rw [four_eq]; rfl))
theorem impl_Unsealed_f (s : ByteArray) (hs : s.size ≤ 140737488351232) : Ev (fun k => impl_Unsealed.f k s) (unsealedV s) := by
  unfold impl_Unsealed.f unsealedV
  have e : wrap64 ((s.size : Int) - 4) = (s.size : Int) - 4 := wid (by omega) (by omega)
  rw [e]
  clear e
  by_cases h : (s.size : Int) - 4 < 0
  · exact ev_if h (ev_some (congrArg some (if_neg (by omega)).symm))
  refine ev_else h ?_
  by_cases h2 : (s.size : Int) - 4 > 20000
  · exact ev_if h2 (ev_some (congrArg some (if_neg (by omega)).symm))
  refine ev_else h2 (ev_if (by omega) (ev_if (by omega) ?_))
  have e : ((s.size : Int) - 4).toNat = s.size - 4 := by omega
  rw [e]
  refine ev_bind (impl_sumText_f _ (by rw [ByteArray.size_extract]; omega)) ?_
  by_cases h3 : sumS (s.extract 0 (s.size - 4)) = s.extract (s.size - 4) s.size
  · exact ev_if ((toList_iff _ _).2 h3) (ev_some (congrArg some (if_pos ⟨by omega, by omega, h3⟩).symm))
  · exact ev_else (fun hc => h3 ((toList_iff _ _).1 hc)) (ev_some (congrArg some (if_neg (fun hc => h3 hc.2.2)).symm))
theorem impl_Sealed_f (s : ByteArray) (hs : s.size ≤ 140737488351232) : Ev (fun k => impl_Sealed.f k s) (sealedV s) := by
  unfold impl_Sealed.f sealedV
  by_cases h : (s.size : Int) > 20000
  · rw [if_neg (by omega)]
    exact ev_if h (ev_some rfl)
  · refine ev_else h ?_
    rw [if_pos (by omega)]
    refine ev_bind (impl_sumText_f s (by omega)) ?_
    exact ev_if (by rw [sumS_size]; omega) (ev_some rfl)
theorem drop_getD {α : Type} (l : List α) (d : α) (i : Nat) (h : i < l.length) : l.drop i = l.getD i d :: l.drop (i + 1) := by
  rw [List.drop_eq_getElem_cons h, List.getD_eq_getElem?_getD, List.getElem?_eq_getElem h]
  rfl
theorem drop_end {α : Type} (l : List α) (i : Nat) (h : l.length ≤ i) : l.drop i = [] := List.drop_eq_nil_of_le h
theorem rd_nat (l : List Int) (i : Nat) : rd l (i : Int) = l.getD i 0 := rfl
theorem copy_step {α : Type} (l : List α) (d z : α) (i : Nat) (h : i < l.length) :
    (l.take i ++ List.replicate (l.length - i) z).set i (l.getD i d) = l.take (i + 1) ++ List.replicate (l.length - (i + 1)) z := by
  have h1 : (l.take i).length = i := by rw [List.length_take]; omega
  rw [List.set_append_right _ _ (by omega), h1, Nat.sub_self]
  have h2 : l.length - i = (l.length - (i + 1)) + 1 := by omega
  rw [h2, List.replicate_succ, List.set_cons_zero, List.take_succ_eq_append_getElem h, List.append_assoc]
  congr 1
  rw [List.getD_eq_getElem?_getD, List.getElem?_eq_getElem h]
  rfl
theorem copy_len {α : Type} (l : List α) (z : α) (i : Nat) (h : i ≤ l.length) : (l.take i ++ List.replicate (l.length - i) z).length = l.length := by
  rw [List.length_append, List.length_take, List.length_replicate]; omega
theorem toNat_nat (i : Nat) : ((i : Int)).toNat = i := rfl
theorem succ_i (i : Nat) (h : i ≤ 9223372036854775806) : wrap64 ((i : Int) + 1) = ((i + 1 : Nat) : Int) := wrap_to (by omega) (by omega) (by omega)
theorem pred_i (i : Nat) (h : 0 < i) (h' : i ≤ 9223372036854775806) : wrap64 ((i : Int) - 1) = ((i - 1 : Nat) : Int) := wrap_to (by omega) (by omega) (by omega)
/-! drawn numbers: only their ranges matter -/
theorem and255 (x : Int) : 0 ≤ Go.bits .and .i64 x 255 ∧ Go.bits .and .i64 x 255 ≤ 255 := by
  have h : ((BitVec.ofInt 64 x) &&& (BitVec.ofInt 64 255)).toNat ≤ 255 := by
    rw [BitVec.toNat_and]
    exact Nat.le_trans Nat.and_le_right (show (BitVec.ofInt 64 255).toNat ≤ 255 by decide)
  have e : Go.bits .and .i64 x 255 = IntKind.i64.wrap ((((BitVec.ofInt 64 x) &&& (BitVec.ofInt 64 255)).toNat : Nat) : Int) := rfl
  rw [e, IntKind.wrap_i64]
  omega
theorem spec_l01New_l0 (l : List Int) (hl : l.length ≤ 4611686018427387904) : ∀ (d i : Nat) (h : Int), i + d = l.length → ∃ h', Ev (fun k => spec_l01New.l0 k l h (i : Int)) (l, 0, h') := by
  intro d
  induction d with
  | zero =>
    intro i h hi
    refine ⟨h, ev_succ ?_⟩
    simp only [spec_l01New.l0]
    exact ev_else (by omega) (ev_some rfl)
  | succ d ih =>
    intro i h hi
    by_cases h4 : (i : Int) < 4000
    · obtain ⟨h', hh⟩ := ih (i + 1) (Go.bits .and .i64 (wrap64 ((wrap64 ((wrap64 (h * 131)) + (wrap64 (rd l (i : Int))))) + 7)) 1073741823) (by omega)
      refine ⟨h', ev_succ ?_⟩
      simp only [spec_l01New.l0]
      refine ev_if (by omega) (ev_if h4 (ev_if (by omega) ?_))
      rw [succ_i i (by omega)]
      exact hh
    · refine ⟨h, ev_succ ?_⟩
      simp only [spec_l01New.l0]
      exact ev_if (by omega) (ev_else h4 (ev_some rfl))
theorem spec_l01New_f (l : List Int) (hl : l.length ≤ 4611686018427387904) : ∃ h, Ev (fun k => spec_l01New.f k l) (l, 0, h) := by
  unfold spec_l01New.f
  exact spec_l01New_l0 l hl l.length 0 _ (by omega)
/-- what a draw gives: a number that q tells of, and a cursor that is right -/
def Drew (o : Option (Int × Int × Int)) (q : Int → Prop) : Prop := ∃ r i h, o = some (r, i, h) ∧ q r ∧ 0 ≤ i
theorem spec_l01Byte_f (l : List Int) (i h : Int) (hl : l.length ≤ 4611686018427387904) (hi : 0 ≤ i) : Drew (spec_l01Byte.f l i h) (fun r => 0 ≤ r ∧ r ≤ 255) := by
  unfold spec_l01Byte.f Drew
  by_cases h1 : i < (l.length : Int)
  · rw [if_pos h1, if_pos hi]
    refine ⟨_, _, _, rfl, and255 _, ?_⟩
    rw [wid (x := i + 1) (by omega) (by omega)]
    omega
  · rw [if_neg h1]
    exact ⟨_, _, _, rfl, and255 _, hi⟩
theorem spec_l01Below_f (l : List Int) (i h n : Int) (hl : l.length ≤ 4611686018427387904) (hi : 0 ≤ i) (hn : 0 < n) : Drew (spec_l01Below.f l i h n) (fun r => 0 ≤ r ∧ r < n) := by
  unfold spec_l01Below.f
  rw [if_neg (by omega)]
  by_cases h1 : n ≤ 256
  · rw [if_pos h1]
    obtain ⟨r, i', h', e, hr, hi'⟩ := spec_l01Byte_f l i h hl hi
    rw [e]
    simp only [Option.bind_some]
    rw [if_neg (by omega)]
    refine ⟨_, _, _, rfl, ?_, hi'⟩
    rw [tmodp (a := r) hr.1]
    have := Int.emod_lt_of_pos r hn
    have := Int.emod_nonneg r (show n ≠ 0 by omega)
    omega
  · rw [if_neg h1]
    obtain ⟨r1, i1, h1', e1, hr1, hi1⟩ := spec_l01Byte_f l i h hl hi
    obtain ⟨r2, i2, h2', e2, hr2, hi2⟩ := spec_l01Byte_f l i1 h1' hl hi1
    obtain ⟨r3, i3, h3', e3, hr3, hi3⟩ := spec_l01Byte_f l i2 h2' hl hi2
    obtain ⟨r4, i4, h4', e4, hr4, hi4⟩ := spec_l01Byte_f l i3 h3' hl hi3
    rw [e1]; simp only [Option.bind_some]
    rw [e2]; simp only [Option.bind_some]
    rw [e3]; simp only [Option.bind_some]
    rw [e4]; simp only [Option.bind_some]
    rw [if_neg (by omega)]
    refine ⟨_, _, _, rfl, ?_, hi4⟩
    rw [wid (x := r1 * 16777216) (by omega) (by omega), wid (x := r2 * 65536) (by omega) (by omega), wid (x := r3 * 256) (by omega) (by omega), wid (x := r1 * 16777216 + r2 * 65536) (by omega) (by omega), wid (x := r1 * 16777216 + r2 * 65536 + r3 * 256) (by omega) (by omega), wid (x := r1 * 16777216 + r2 * 65536 + r3 * 256 + r4) (by omega) (by omega)]
    rw [tmodp (a := r1 * 16777216 + r2 * 65536 + r3 * 256 + r4) (by omega)]
    have := Int.emod_lt_of_pos (r1 * 16777216 + r2 * 65536 + r3 * 256 + r4) hn
    have := Int.emod_nonneg (r1 * 16777216 + r2 * 65536 + r3 * 256 + r4) (show n ≠ 0 by omega)
    omega
theorem strOfNums_size (l : List Int) : (strOfNums l).size = l.length := by simp [strOfNums, ByteArray.size]
theorem spec_l01Text_l0 (l : List Int) (hl : l.length ≤ 4611686018427387904) (n : Int) (hn : n ≤ 5000) : ∀ (d i : Nat) (acc : List Int) (p h : Int), (i : Int) + d = n → acc.length = i → 0 ≤ p →
    ∃ r p' h', Ev (fun k => spec_l01Text.l0 k n acc (i : Int) l p h) (r, p', h') ∧ r.size ≤ 5000 ∧ 0 ≤ p' := by
  intro d
  induction d with
  | zero =>
    intro i acc p h hi ha hp
    refine ⟨strOfNums acc, p, h, ev_succ ?_, ?_, hp⟩
    · simp only [spec_l01Text.l0]
      exact ev_else (by omega) (ev_some rfl)
    · rw [strOfNums_size]; omega
  | succ d ih =>
    intro i acc p h hi ha hp
    obtain ⟨r, p1, h1, e, hr, hp1⟩ := spec_l01Byte_f l p h hl hp
    obtain ⟨r', p2, h2, hev, hsz, hp2⟩ := ih (i + 1) (acc ++ [r % 256]) p1 h1 (by omega) (by simp [ha]) hp1
    refine ⟨r', p2, h2, ev_succ ?_, hsz, hp2⟩
    simp only [spec_l01Text.l0]
    refine ev_if (by omega) (ev_bind0 e (ev_if (by omega) ?_))
    rw [succ_i i (by omega)]
    exact hev
theorem spec_l01Text_f (l : List Int) (hl : l.length ≤ 4611686018427387904) (p h n : Int) (hp : 0 ≤ p) (hn : 0 ≤ n) :
    ∃ r p' h', Ev (fun k => spec_l01Text.f k l p h n) (r, p', h') ∧ r.size ≤ 5000 ∧ 0 ≤ p' := by
  unfold spec_l01Text.f
  by_cases h5 : n > 5000
  · obtain ⟨r, p', h', e, a, b⟩ := spec_l01Text_l0 l hl 5000 (by omega) 5000 0 [] p h (by omega) rfl hp
    refine ⟨r, p', h', ev_if h5 (ev_succ ?_), a, b⟩
    simp only [spec_l01Text.j0]
    exact e
  · obtain ⟨r, p', h', e, a, b⟩ := spec_l01Text_l0 l hl n (by omega) n.toNat 0 [] p h (by omega) rfl hp
    refine ⟨r, p', h', ev_else h5 (ev_succ ?_), a, b⟩
    simp only [spec_l01Text.j0]
    exact e
theorem xcr {a b c : Nat} (h : a ^^^ c = b ^^^ c) : a = b := by
  have := congrArg (· ^^^ c) h
  simpa [Nat.xor_assoc] using this
theorem xcl {a b c : Nat} (h : c ^^^ a = c ^^^ b) : a = b := xcr (c := c) (by rw [Nat.xor_comm a c, Nat.xor_comm b c]; exact h)
theorem crcBit_inj {a b : Nat} (ha : a < 4294967296) (hb : b < 4294967296) (h : crcBit a = crcBit b) : a = b := by
  unfold crcBit at h
  have top : ∀ x : Nat, x < 2147483648 → (x ^^^ 3558460437).testBit 31 = true := by
    intro x hx
    rw [Nat.testBit_xor, Nat.testBit_lt_two_pow (show x < 2 ^ 31 by omega)]
    decide
  have low : ∀ x : Nat, x < 2147483648 → x.testBit 31 = false := fun x hx => Nat.testBit_lt_two_pow (show x < 2 ^ 31 by omega)
  by_cases h1 : a % 2 = 1 <;> by_cases h2 : b % 2 = 1
  · rw [if_pos h1, if_pos h2] at h
    have := xcr h
    omega
  · rw [if_pos h1, if_neg h2] at h
    have := congrArg (fun x => x.testBit 31) h
    simp only [top (a / 2) (by omega), low (b / 2) (by omega)] at this
    cases this
  · rw [if_neg h1, if_pos h2] at h
    have := congrArg (fun x => x.testBit 31) h
    simp only [top (b / 2) (by omega), low (a / 2) (by omega)] at this
    cases this
  · rw [if_neg h1, if_neg h2] at h
    omega
theorem crcBits_inj : ∀ (n : Nat) {a b : Nat}, a < 4294967296 → b < 4294967296 → crcBits n a = crcBits n b → a = b
  | 0, _, _, _, _, h => h
  | n + 1, _, _, ha, hb, h => crcBit_inj ha hb (crcBits_inj n (crcBit_lt ha) (crcBit_lt hb) h)
theorem crc_arg_lt {x b : Nat} (hx : x < 4294967296) (hb : b < 256) : x ^^^ b < 4294967296 := Nat.xor_lt_two_pow (n := 32) hx (by omega)
theorem crcL_inj : ∀ (l : List Nat) {a b : Nat}, (∀ y ∈ l, y < 256) → a < 4294967296 → b < 4294967296 → crcL l a = crcL l b → a = b
  | [], _, _, _, _, _, h => h
  | y :: l, _, _, hl, ha, hb, h => by
    have hy := hl y (List.mem_cons_self ..)
    have := crcL_inj l (fun z hz => hl z (List.mem_cons_of_mem _ hz)) (crcBits_lt (crc_arg_lt ha hy) 8) (crcBits_lt (crc_arg_lt hb hy) 8) h
    exact xcr (crcBits_inj 8 (crc_arg_lt ha hy) (crc_arg_lt hb hy) this)
theorem crcL_set : ∀ (l : List Nat) (i : Nat) (x c : Nat), (∀ y ∈ l, y < 256) → c < 256 → x < 4294967296 → i < l.length → l.getD i 0 ≠ c → crcL (l.set i c) x ≠ crcL l x
  | [], i, x, c, _, _, _, hi, _ => absurd hi (Nat.not_lt_zero _)
  | y :: l, 0, x, c, hl, hc, hx, _, hne => by
    intro h
    have hy := hl y (List.mem_cons_self ..)
    have h2 := crcL_inj l (fun z hz => hl z (List.mem_cons_of_mem _ hz)) (crcBits_lt (crc_arg_lt hx hc) 8) (crcBits_lt (crc_arg_lt hx hy) 8) h
    have h3 := crcBits_inj 8 (crc_arg_lt hx hc) (crc_arg_lt hx hy) h2
    exact hne (xcl h3).symm
  | y :: l, i + 1, x, c, hl, hc, hx, hi, hne => by
    have hy := hl y (List.mem_cons_self ..)
    exact crcL_set l i _ c (fun z hz => hl z (List.mem_cons_of_mem _ hz)) hc (crcBits_lt (crc_arg_lt hx hy) 8) (by simpa using hi) hne
theorem fourN_inj {a b : Nat} (ha : a < 4294967296) (hb : b < 4294967296) (h : fourN a = fourN b) : a = b := by
  unfold fourN at h
  injection h with h1 h
  injection h with h2 h
  injection h with h3 h
  injection h with h4 _
  omega
theorem fourN_lt (x : Nat) : ∀ y ∈ fourN x, y < 256 := by
  intro y hy
  simp only [fourN, List.mem_cons, List.not_mem_nil, or_false] at hy
  omega
theorem xor_u8 (a b : Nat) (ha : a < 256) (hb : b < 256) : Go.bits .xor .u8 (a : Int) (b : Int) = ((a ^^^ b : Nat) : Int) := by
  have h : a ^^^ b < 2 ^ 8 := Nat.xor_lt_two_pow ha hb
  have e1 : a % 2 ^ 8 = a := Nat.mod_eq_of_lt ha
  have e2 : b % 2 ^ 8 = b := Nat.mod_eq_of_lt hb
  have e3 : IntKind.u8.bits = 8 := rfl
  simp only [Go.bits, e3, BitVec.ofInt_natCast, BitVec.toNat_xor, BitVec.toNat_ofNat, e1, e2, IntKind.wrap_u8]
  omega
theorem bytesOf_nats (t : ByteArray) : bytesOf t = intsOf (natsOf t) := by
  unfold bytesOf intsOf natsOf
  rw [List.map_map]
  rfl
theorem xor_ne (b e : Nat) (he : 1 ≤ e) : b ^^^ e ≠ b := by
  intro h
  have h2 : b ^^^ e = b ^^^ 0 := by rw [h, Nat.xor_zero]
  have := xcl h2
  omega
/-- a sealed text of which one byte is another is not unsealed -/
theorem turned_no (s : ByteArray) (hs : s.size ≤ 20000) (i : Nat) (hi : i < s.size + 4) (z : Int) (hz : 0 ≤ z) (hz2 : z ≤ 10000) :
    unsealedV (strOfNums ((bytesOf (s ++ sumS s)).set i (Go.bits .xor .u8 (bt (s ++ sumS s) (i : Int)) (wrap64 (1 + Int.tmod z 255) % 256)))) = (⟨#[]⟩, false) := by
  have hts : (s ++ sumS s).size = s.size + 4 := by rw [ByteArray.size_append, sumS_size]
  have hnt : natsOf (s ++ sumS s) = natsOf s ++ fourN (crcL (natsOf s) 4294967295) := by
    rw [natsOf_append]
    unfold sumS
    rw [natsOf_strN _ (fourN_lt _)]
  have hlen : (natsOf s).length = s.size := natsOf_length s
  have hbt := bt_nat (s ++ sumS s) i (by omega)
  have hdr := natsOf_drop (s ++ sumS s) i (by omega)
  have hblt : (((s ++ sumS s)[i]'(by omega)).toNat) < 256 := UInt8.toNat_lt _
  generalize (((s ++ sumS s)[i]'(by omega)).toNat) = b at hbt hdr hblt
  have hget : (natsOf (s ++ sumS s)).getD i 0 = b := by
    have h0 : ((natsOf (s ++ sumS s)).drop i).getD 0 0 = b := by rw [hdr]; rfl
    rw [← h0]
    simp [List.getD_eq_getElem?_getD, List.getElem?_drop]
  obtain ⟨e, he, he1, he2⟩ : ∃ e : Nat, wrap64 (1 + Int.tmod z 255) % 256 = (e : Int) ∧ 1 ≤ e ∧ e < 256 := by
    refine ⟨1 + z.toNat % 255, ?_, by omega, by omega⟩
    rw [tmodp hz, wid (by omega) (by omega)]
    omega
  rw [hbt, he, xor_u8 b e hblt he2, bytesOf_nats]
  have hc : b ^^^ e < 256 := Nat.xor_lt_two_pow (n := 8) hblt he2
  have hne := xor_ne b e he1
  generalize b ^^^ e = c at hc hne
  rw [show (intsOf (natsOf (s ++ sumS s))).set i (c : Int) = intsOf ((natsOf (s ++ sumS s)).set i c) by unfold intsOf; rw [List.map_set]]
  show unsealedV (strN ((natsOf (s ++ sumS s)).set i c)) = _
  have hallt : ∀ y ∈ (natsOf (s ++ sumS s)).set i c, y < 256 := by
    intro y hy
    rcases List.mem_or_eq_of_mem_set hy with h | h
    · exact natsOf_lt _ y h
    · omega
  have hn' := natsOf_strN _ hallt
  have hsz : (strN ((natsOf (s ++ sumS s)).set i c)).size = s.size + 4 := by rw [strN_size, List.length_set, natsOf_length]; exact hts
  generalize strN ((natsOf (s ++ sumS s)).set i c) = t' at hn' hsz
  unfold unsealedV
  refine if_neg ?_
  rintro ⟨_, _, h⟩
  have h2 := congrArg natsOf h
  rw [hnt] at hget hn'
  unfold sumS at h2
  rw [natsOf_strN _ (fourN_lt _), natsOf_extract, natsOf_extract, hn', hsz] at h2
  have hl4 : (fourN (crcL (natsOf s) 4294967295)).length = 4 := rfl
  rw [show s.size + 4 - 4 = s.size by omega, List.drop_zero] at h2
  by_cases hlt : i < s.size
  · rw [List.set_append_left _ _ (by omega), List.take_append_of_le_length (by rw [List.length_set]; omega)] at h2
    rw [List.take_of_length_le (by rw [List.length_set]; omega), List.take_of_length_le (by rw [List.length_append, List.length_set]; omega), List.drop_append_of_le_length (by rw [List.length_set]; omega), List.drop_eq_nil_of_le (by rw [List.length_set]; omega), List.nil_append] at h2
    have hA := crcL_lt ((natsOf s).set i c) 4294967295 (by
      intro y hy
      rcases List.mem_or_eq_of_mem_set hy with h | h
      · exact natsOf_lt _ y h
      · omega) (by omega)
    have hB := crcL_lt (natsOf s) 4294967295 (natsOf_lt s) (by omega)
    refine crcL_set (natsOf s) i 4294967295 c (natsOf_lt s) hc (by omega) (by omega) ?_ (fourN_inj hA hB h2)
    rw [List.getD_eq_getElem?_getD, List.getElem?_append_left (by omega), ← List.getD_eq_getElem?_getD] at hget
    rw [hget]
    exact fun h => hne h.symm
  · rw [List.set_append_right _ _ (by omega), List.take_append_of_le_length (by omega), List.take_of_length_le (l := natsOf s) (by omega)] at h2
    rw [List.take_of_length_le (by rw [List.length_append, List.length_set]; omega), List.drop_append_of_le_length (by omega), List.drop_eq_nil_of_le (by omega), List.nil_append] at h2
    rw [List.getD_eq_getElem?_getD, List.getElem?_append_right (by omega), ← List.getD_eq_getElem?_getD, hlen] at hget
    have h3 := congrArg (fun l => l.getD (i - s.size) 0) h2
    try simp only at h3
    rw [hget, hlen, List.getD_eq_getElem?_getD, List.getElem?_set_self (by omega)] at h3
    exact hne h3.symm
theorem spec_DrawSumOf_f (l : List Int) (hl : l.length ≤ 4611686018427387904) : ∃ r, Ev (fun k => spec_DrawSumOf.f k l) r ∧ r.size ≤ 5000 := by
  obtain ⟨h, e⟩ := spec_l01New_f l hl
  obtain ⟨r, p1, h1, e1, hr, hp1⟩ := spec_l01Below_f l 0 h 40 hl (by omega) (by omega)
  obtain ⟨R, p2, h2, hR, hsz, _⟩ := spec_l01Text_f l hl p1 h1 r hp1 hr.1
  unfold spec_DrawSumOf.f
  exact ⟨R, ev_bind e (ev_bind0 e1 (ev_bind hR (ev_some rfl))), hsz⟩
theorem places_l0 (l : List Int) (hl : l.length ≤ 4611686018427387904) : ∀ (d i : Nat) (p h : Int) (acc : List Int), i + d = 12 → acc.length = i → 0 ≤ p → (∀ x ∈ acc, 0 ≤ x ∧ x < 10000) →
    ∃ r, Ev (fun k => spec_DrawPlaces.l0 k acc (i : Int) l p h) r ∧ r.length = 12 ∧ ∀ x ∈ r, 0 ≤ x ∧ x < 10000 := by
  intro d
  induction d with
  | zero =>
    intro i p h acc hi ha hp hall
    refine ⟨acc, ev_succ ?_, by omega, hall⟩
    simp only [spec_DrawPlaces.l0]
    exact ev_else (by omega) (ev_some rfl)
  | succ d ih =>
    intro i p h acc hi ha hp hall
    obtain ⟨r, p1, h1, e, hr, hp1⟩ := spec_l01Below_f l p h 10000 hl hp (by omega)
    obtain ⟨R, hR, hlen, hR2⟩ := ih (i + 1) p1 h1 (acc ++ [r]) (by omega) (by simp [ha]) hp1 (by
      intro x hx
      rcases List.mem_append.1 hx with hx | hx
      · exact hall x hx
      · rw [List.mem_singleton.1 hx]; exact hr)
    refine ⟨R, ev_succ ?_, hlen, hR2⟩
    simp only [spec_DrawPlaces.l0]
    refine ev_if (by omega) (ev_bind0 e (ev_if (by omega) ?_))
    rw [succ_i i (by omega)]
    exact hR
theorem places_f (l : List Int) (hl : l.length ≤ 4611686018427387904) : ∃ r, Ev (fun k => spec_DrawPlaces.f k l) r ∧ r.length = 12 ∧ ∀ x ∈ r, 0 ≤ x ∧ x < 10000 := by
  obtain ⟨h, e⟩ := spec_l01New_f l hl
  obtain ⟨r, p1, h1, e1, _, hp1⟩ := spec_l01Byte_f l 0 h hl (by omega)
  obtain ⟨R, hR, hlen, h2⟩ := places_l0 l hl 12 0 p1 h1 [] rfl rfl hp1 (by intro x hx; cases hx)
  unfold spec_DrawPlaces.f
  exact ⟨R, ev_bind e (ev_bind0 e1 hR), hlen, h2⟩
theorem crcL_append : ∀ (a b : List Nat) (x : Nat), crcL (a ++ b) x = crcL b (crcL a x)
  | [], _, _ => rfl
  | y :: a, b, x => crcL_append a b _
theorem FnTurned (l : List Int) (hl : l.length ≤ maxLen ∧ ∀ x ∈ l, (Lit.int .u8 x).wf = true) : ∃ k, laws_FnTurned.f k l = some true := by
  refine Ev.rounds ?_
  unfold laws_FnTurned.f laws_big.f
  refine ev_bind0 rfl ?_
  by_cases hbig : (l.length : Int) > 1048576
  · exact ev_if (by simpa using hbig) (ev_some rfl)
  refine ev_else (by simpa using hbig) ?_
  obtain ⟨s, hS, hss⟩ := spec_DrawSumOf_f l (by omega)
  obtain ⟨p, hP, hPl, hPr⟩ := places_f l (by omega)
  have hse := impl_Sealed_f s (by omega)
  have hts : (s ++ sumS s).size = s.size + 4 := by rw [ByteArray.size_append, sumS_size]
  have hun := impl_Unsealed_f (s ++ sumS s) (by omega)
  have e1 : sealedV s = (s ++ sumS s, true) := if_pos (by omega)
  have e3 : (s ++ sumS s).extract 0 s.size = s := by
    apply natsOf_inj
    rw [natsOf_extract, natsOf_append, List.drop_zero, List.take_append_of_le_length (by rw [natsOf_length]; omega), List.take_of_length_le (by rw [natsOf_length]; omega)]
  have e4 : (s ++ sumS s).extract s.size (s.size + 4) = sumS s := by
    apply natsOf_inj
    rw [natsOf_extract, natsOf_append, List.take_of_length_le (by rw [List.length_append, natsOf_length, natsOf_length, sumS_size]; omega), List.drop_append_of_le_length (by rw [natsOf_length]; omega), List.drop_eq_nil_of_le (by rw [natsOf_length]; omega), List.nil_append]
  have e2 : unsealedV (s ++ sumS s) = (s, true) := by
    unfold unsealedV
    rw [hts, show s.size + 4 - 4 = s.size by omega, e3, e4]
    exact if_pos ⟨by omega, by omega, rfl⟩
  rw [e1] at hse
  rw [e2] at hun
  have hp0 : 0 ≤ p.getD 0 0 ∧ p.getD 0 0 < 10000 := by
    rw [List.getD_eq_getElem?_getD, List.getElem?_eq_getElem (by omega)]
    exact hPr _ (List.getElem_mem _)
  have hp1 : 0 ≤ p.getD 1 0 ∧ p.getD 1 0 < 10000 := by
    rw [List.getD_eq_getElem?_getD, List.getElem?_eq_getElem (by omega)]
    exact hPr _ (List.getElem_mem _)
  have hi0 : 0 ≤ Int.tmod (p.getD 0 0) ((s ++ sumS s).size : Int) := by rw [tmodp hp0.1]; exact Int.emod_nonneg _ (by omega)
  have hi1 : Int.tmod (p.getD 0 0) ((s ++ sumS s).size : Int) < ((s ++ sumS s).size : Int) := by rw [tmodp hp0.1]; exact Int.emod_lt_of_pos _ (by omega)
  have hno := turned_no s (by omega) (Int.tmod (p.getD 0 0) ((s ++ sumS s).size : Int)).toNat (by omega) (p.getD 1 0) hp1.1 (by omega)
  have hx := impl_Unsealed_f (strOfNums ((bytesOf (s ++ sumS s)).set (Int.tmod (p.getD 0 0) ((s ++ sumS s).size : Int)).toNat (turnB (s ++ sumS s) (Int.tmod (p.getD 0 0) ((s ++ sumS s).size : Int)).toNat (p.getD 1 0)))) (by
    rw [strOfNums_size, List.length_set, bytesOf_length]; omega)
  rw [show unsealedV (strOfNums ((bytesOf (s ++ sumS s)).set (Int.tmod (p.getD 0 0) ((s ++ sumS s).size : Int)).toNat (turnB (s ++ sumS s) (Int.tmod (p.getD 0 0) ((s ++ sumS s).size : Int)).toNat (p.getD 1 0)))) = (⟨#[]⟩, false) from hno] at hx
  have hm := impl_SumOf_f s (by omega)
  have hlt := crcL_lt (natsOf s) 4294967295 (natsOf_lt s) (by omega)
  have hn := impl_SumMore_f ⟨#[120]⟩ (by decide) (crcL (natsOf s) 4294967295) hlt
  have hn2 := impl_SumOf_f (s ++ ⟨#[120]⟩) (by rw [ByteArray.size_append]; have : (⟨#[120]⟩ : ByteArray).size = 1 := rfl; omega)
  rw [natsOf_append, crcL_append] at hn2
  refine ev_bind hS (ev_bind hP (ev_bind hse (ev_bind hun (ev_if ⟨hPl, rfl, rfl, hts, by omega, hi0, hi1⟩ ?_))))
  exact ev_bind hx (ev_if rfl (ev_bind hm (ev_bind hn (ev_bind hn2 (ev_if rfl (ev_some rfl))))))

end Go.Proofs.Ytgdcfkhpeakbfaa.Pure
