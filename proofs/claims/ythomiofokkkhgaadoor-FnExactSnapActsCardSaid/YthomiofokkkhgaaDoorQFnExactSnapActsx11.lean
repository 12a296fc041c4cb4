-- Own work (wip/turnprint.py over the kit's print).
import Derived.Test.YthomiofokkkhgaaDoorQFnExactSnapActsx0
import Derived.Test.YthomiofokkkhgaaDoorQFnExactSnapActsx8
import Derived.Test.YthomiofokkkhgaaDoorQFnExactSnapActsx9
import Derived.Test.YthomiofokkkhgaaDoorQFnExactSnapActsx10
namespace Go.Proofs.YthomiofokkkhgaaDoor.QFnExactSnapActs
open Go.RowKit Go.Proofs.YthomiofokkkhgaaDoorW.PrintWords Go.Proofs.YthomiofokkkhgaaDoorW.PrintLast Go.Proofs.YthomiofokkkhgaaDoorW.PrintMore
attribute [local go_sem] max2_int min2_int max_two min_two max_three min_three max_four min_four   -- for this text's walks alone
set_option linter.unusedVariables false
set_option linter.unusedSimpArgs false

/-! ### impl_SnapActs: function 10 (given by the session) -/
section Chunk
attribute [local go_sem] Oper.semAt_some
open Go.Shelf
theorem ck_size5 (w : World) : (Go.sizeOf 5).run Tryd.prog w = .ok 1 w := by kernel_rfl
theorem ck_elem : Tryd.prog.elem 69 = 5 := by simp [Program.elem, Tryd.underlying69]
theorem ck_und : Tryd.prog.underlying 69 = some (.slice (Tryd.prog.elem 69)) := by rw [ck_elem]; exact Tryd.underlying69
theorem ck_slice (gt len cap p : Nat) (hlen : len ≤ 1099511627776) (hcap : len ≤ cap) (hp : p < len) (w : World) :
 (Instr.slice 69 (.slice (some ⟨gt, 0, none⟩) len cap) (some (.int .i64 (p : Int))) none none).run Tryd.prog w = .ok (.slice (some ⟨gt, p, none⟩) (len - p) (cap - p)) w := by
 rw [run_slice_l w 69 _ _ _ ck_und .i64 (p : Int) (by omega) (by omega), ck_elem, ck_size5]
 have hne : ¬ cap = p := by omega
 by_cases h0 : p = 0
 ·subst h0
  simp [Result.andThen, sliced, Addr.add, hne]
 ·simp [Result.andThen, sliced, Addr.add, hne, h0]
theorem ck_slice3 (gt len cap p m : Nat) (hlen : len ≤ 1099511627776) (hcap : len ≤ cap) (hp : p + m ≤ len) (hm : 1 ≤ m) (w : World) :
 (Instr.slice 69 (.slice (some ⟨gt, 0, none⟩) len cap) (some (.int .i64 (p : Int))) (some (.int .i64 ((p : Int) + (m : Int)))) (some (.int .i64 ((p : Int) + (m : Int))))).run Tryd.prog w = .ok (.slice (some ⟨gt, p, none⟩) m m) w := by
 rw [run_slice_lhm w 69 _ _ _ ck_und .i64 .i64 .i64 (p : Int) _ _ (by omega) (by omega) (by omega) (by omega), ck_elem, ck_size5]
 have e1 : ((p : Int) + (m : Int)).toNat = p + m := by omega
 have e2 : ((p : Int)).toNat = p := by omega
 rw [e1, e2]
 have hne : ¬ p + m = p := by omega
 have hne2 : ¬ m = 0 := by omega
 by_cases h0 : p = 0
 ·subst h0
  simp [Result.andThen, sliced, Addr.add, hne2]
 ·simp [Result.andThen, sliced, Addr.add, hne2, h0]
theorem ck_drew (w : World) (n : Nat) : w.grownBy (w.drewN n) none := ⟨rfl, rfl, rfl, Nat.le_refl _, fun _ _ _ => rfl⟩
/-- which bytes the j-th chunk of len bytes is -/
def ckV (gt len : Nat) (j : Nat) : Value := if 60 * j < len then .slice (some ⟨gt, 60 * j, none⟩) (min 60 (len - 60 * j)) (min 60 (len - 60 * j)) else .slice none 0 0
set_option maxRecDepth 100000 in
set_option maxHeartbeats 4000000 in
theorem chunk1_in (n B : Nat) (hn : 1 ≤ n) (l gt Bs Bn len cap : Nat) (hcap : len ≤ cap) (hlen : len ≤ 1099511627776) (Kp : World → World → Prop)
 (hKp : ∀ A B, Kp A B → B.heap[Bs]? = A.heap[Bs]? ∧ B.heap[Bn]? = A.heap[Bn]?) (J Jx : List Nat → World → Prop) (hJ : AbidesFrom B J)
 (hY : ∀ pre x W, J pre W → pre.length < (len + 59) / 60 → YieldAt Fence.wide (n - 1) Tryd.prog l #[ckV gt len x] W fun e W' =>
  (e = .returned (.bool true) ∧ J (pre ++ [x]) W' ∧ Kp W W') ∨ (e = .returned (.bool false) ∧ Jx (pre ++ [x]) W'))
 (W : World) (hs : W.cell? ⟨Bs, 0, none⟩ = some (.slice (some ⟨gt, 0, none⟩) len cap)) (hn60 : W.cell? ⟨Bn, 0, none⟩ = some (.int .i64 60)) (h0 : J [] W) :
 CallsIn Fence.wide n Tryd.prog 69 #[.func (.yield l) #[] #[], .pointer (some ⟨Bs, 0, none⟩), .pointer (some ⟨Bn, 0, none⟩)] W fun e W' => (∃ v, e = .returned v) ∧
  ((∃ ys, ys = List.range ((len + 59) / 60) ∧ J ys W') ∨ (∃ pre, (fun _ => True) pre ∧ Jx pre W')) := by
 refine callsIn_of_wp Tryd.func69 rfl trivial ?_ rfl
 simp only [Tryd.ntmps69, List.size_toArray, List.length_cons, List.length_nil, Nat.reduceAdd, Nat.reduceSub, Array.replicate_succ, Array.replicate_zero, List.push_toArray, List.append_toArray, List.nil_append, List.cons_append]
 gi_wp2
 gi_loopw [4] (fun i wr => ∃ k : Nat, k ≤ (len + 59) / 60 ∧ i = .int .i64 ((60 * k : Nat) : Int) ∧ J (List.range k) wr ∧ Aside0 (wr.cell? ⟨Bs, 0, none⟩ = some (.slice (some ⟨gt, 0, none⟩) len cap)) ∧ Aside0 (wr.cell? ⟨Bn, 0, none⟩ = some (.int .i64 60)))
  (fun i _ => len + 60 - (intOf i).toNat)
 case atStart => exact ⟨0, Nat.zero_le _, rfl, h0, ⟨hs⟩, ⟨hn60⟩⟩
 case round =>
  clear hs hn60
  obtain ⟨k, hk, rfl, hJs, hcs, hcn⟩ := hrel
  have hcs1 := hcs.out; have hcn1 := hcn.out
  by_cases hlt : 60 * k < len
  ·have hkl : k < (len + 59) / 60 := by omega
   obtain ⟨m, hm⟩ : ∃ m : Nat, m = min 60 (len - 60 * k) := ⟨_, rfl⟩
   have hck : ckV gt len k = .slice (some ⟨gt, 60 * k, none⟩) m m := by unfold ckV; rw [if_pos hlt, hm]
   have hmin : (if ((len - 60 * k : Nat) : Int) < 60 then ((len - 60 * k : Nat) : Int) else 60) = (m : Int) := by
    split <;> omega
   have hm1 : 1 ≤ m := by omega
   have hm2 : m ≤ 60 := by omega
   have hm3 : 60 * k + m ≤ len := by omega
   have hnext : k + 1 ≤ (len + 59) / 60 := hkl
   clear hm
   obtain ⟨p, hp⟩ : ∃ p : Nat, p = 60 * k := ⟨_, rfl⟩
   rw [← hp] at hck hmin hm3 hlt
   have HCK := aM hck
   clear hck
   have hsl := ck_slice gt len cap p hlen hcap hlt
   have hsl3 := ck_slice3 gt len cap p m hlen hcap hm3 hm1
   have HP := aM hp
   have hlt' : (p : Int) < (len : Int) := by omega
   rw [show ((60 * k : Nat) : Int) = (p : Int) by omega]
   clear hp
   gi_wp2
   refine wpIn_wide.2 ?_
   go_quiet (fail)
   have hJq : J (List.range k) (wr.drewN nq) := hJ _ _ _ none hJs (ck_drew wr nq) (fun r e => by cases e)
   obtain ⟨fn, tmps, assign, body, hy, hR⟩ := hY _ k (wr.drewN nq) hJq (by rw [List.length_range]; exact hkl)
   rw [HCK.out] at hy
   clear hmin
   gi_wp2
   refine hR.mono ?_
   rintro e W3 (⟨rfl, hJ3, hk3⟩ | ⟨rfl, hJx3⟩)
   ·have hb := hKp _ _ hk3
    have hcn3 : W3.cell? ⟨Bn, 0, none⟩ = some (.int .i64 60) := by
     have := hcn.out
     simp only [World.cell?] at this ⊢
     rw [hb.2]
     simpa using this
    have hcs3 : W3.cell? ⟨Bs, 0, none⟩ = some (.slice (some ⟨gt, 0, none⟩) len cap) := by
     have := hcs.out
     simp only [World.cell?] at this ⊢
     rw [hb.1]
     simpa using this
    have HCS3 := aM hcs3
    have HB := aM hb
    clear hcs3 hb hcs1 hcn1
    gi_wp2
    go_roundw
    case rel => exact ⟨k + 1, hnext, by rw [HP.out]; first | (congr 1; done) | (congr 1; omega), by rw [List.range_succ]; exact hJ3, HCS3, ⟨hcn3⟩⟩
    case measure => simp [intOf]; omega
   ·gi_wp2
    refine bodyPost_ret (results_none rfl _ _ _) rfl ?_
    exact ⟨⟨_, rfl⟩, .inr ⟨_, trivial, hJx3⟩⟩
  ·obtain rfl : k = (len + 59) / 60 := by omega
   gi_wp2
   go_end0
   exact ⟨⟨_, rfl⟩, .inl ⟨_, rfl, hJs⟩⟩
end Chunk
section Chunk
open Go.Shelf
set_option maxRecDepth 100000 in
set_option maxHeartbeats 2000000 in
theorem chunk_calls (a : Option Addr) (len cap : Nat) (w : World) :
 Calls Tryd.prog 35 #[.slice a len cap, .int .i64 60] w fun e w' => ∃ Bs Bn, e = .returned (.func (.func 69) #[] #[.pointer (some ⟨Bs, 0, none⟩), .pointer (some ⟨Bn, 0, none⟩)]) ∧ w'.heap[Bs]? = some (.cells #[.slice a len cap] 69 (0, 0)) ∧ w'.heap[Bn]? = some (.cells #[.int .i64 60] 3 (0, 0)) ∧ w.heap.size ≤ Bs ∧ w.heap.size ≤ Bn ∧ Below w.heap.size w w' := by
 go_enter Tryd.func35, Tryd.ntmps35
 go_wp2
 go_ret
 refine ⟨w.heap.size, w.heap.size + 1, rfl, ?_, ?_, Nat.le_refl _, by omega, ((Below.refl _ _).alloc (Nat.le_refl _) _).alloc (by simp) _⟩
 ·exact (Below.heap_alloc _ _ _ (by simp)).trans (World.alloc_heap_new w _)
 ·have := World.alloc_heap_new (w.alloc (.cells #[.slice a len cap] 69)) (.cells #[.int .i64 60] 3)
  rwa [World.size_alloc] at this
/-- what a round keeps: the text's row, the iterator's two variables -/
def CkKp (gt Bs Bn : Nat) (A B : World) : Prop := B.heap[gt]? = A.heap[gt]? ∧ B.heap[Bs]? = A.heap[Bs]? ∧ B.heap[Bn]? = A.heap[Bn]?
theorem CkKp.trans {gt Bs Bn : Nat} {A B C : World} (h : CkKp gt Bs Bn A B) (k : CkKp gt Bs Bn B C) : CkKp gt Bs Bn A C := ⟨k.1.trans h.1, k.2.1.trans h.2.1, k.2.2.trans h.2.2⟩
theorem CkKp.putObj {gt Bs Bn : Nat} {w : World} (h1 : gt < w.heap.size) (h2 : Bs < w.heap.size) (h3 : Bn < w.heap.size) (W : World) (l : Nat) (o o' : Obj) (hl : w.heap.size ≤ l) (_ : W.heap[l]? = some o) (_ : o.isCells = false) (_ : o.isWalk = false) : CkKp gt Bs Bn W (W.putObj l o') :=
 ⟨World.putObj_heap_other (by omega), World.putObj_heap_other (by omega), World.putObj_heap_other (by omega)⟩
theorem chunk_stops (n : Nat) (hn : 1 ≤ n) (gt Bs Bn len cap : Nat) (hcap : len ≤ cap) (hlen : len ≤ 1099511627776) (w : World) (hBs : Bs < w.heap.size) (hBn : Bn < w.heap.size)
 (hs : w.cell? ⟨Bs, 0, none⟩ = some (.slice (some ⟨gt, 0, none⟩) len cap)) (hn60 : w.cell? ⟨Bn, 0, none⟩ = some (.int .i64 60)) :
 SeqStopsK Fence.wide n Tryd.prog 69 #[.pointer (some ⟨Bs, 0, none⟩), .pointer (some ⟨Bn, 0, none⟩)] (fun j : Nat => #[ckV gt len j]) (CkKp gt Bs Bn) (fun ys => ys = List.range ((len + 59) / 60)) (fun _ => True) ((len + 59) / 60) w := fun l J Jx W hW hJ _ hY h0 =>
 chunk1_in n W.heap.size hn l gt Bs Bn len cap hcap hlen (CkKp gt Bs Bn) (fun _ _ h => h.2) J Jx hJ hY W ((hW.cell (p := ⟨Bs, 0, none⟩) hBs).trans hs) ((hW.cell (p := ⟨Bn, 0, none⟩) hBn).trans hn60) h0
end Chunk
def sflat : List S60 → List Value
 | [] => []
 | x :: xs => .int .i64 x.f0 :: .string x.f1 :: .string x.f2 :: .string x.f3 :: sflat xs
theorem sflat_length (l : List S60) : (sflat l).length = l.length * 4 := by
 induction l with
 | nil => rfl
 | cons x xs ih => simp only [sflat, List.length_cons, ih]; omega
theorem sflat_append (l k : List S60) : sflat (l ++ k) = sflat l ++ sflat k := by
 induction l with
 | nil => rfl
 | cons x xs ih => simp only [List.cons_append, sflat, ih]
theorem sreps (w : World) (base : Nat) (ok : Nat → Prop) (l : List S60) : Reps (k60.M w base ok) 4 l (sflat l) := by
 induction l with
 | nil => exact Reps.none _ _
 | cons x xs ih => exact Reps.c4 (k60_mkM w base ok x) ih
theorem sflat_of {w : World} {base : Nat} {ok : Nat → Prop} {l : List S60} {inner : List Value} (h : Reps (k60.M w base ok) 4 l inner) : inner = sflat l := by
 have h2 := sreps w base ok l
 apply List.ext_getElem (by rw [h.1, h2.1])
 intro j h3 h4
 have hj : j / 4 < l.length := by rw [h.1] at h3; omega
 have e1 := k60_openM (h.2 (j / 4) _ (List.getElem?_eq_getElem hj))
 have e2 := k60_openM (h2.2 (j / 4) _ (List.getElem?_eq_getElem hj))
 have e := congrArg (fun z => z[j % 4]?) (e1.trans e2.symm)
 simp only [List.getElem?_take, List.getElem?_drop] at e
 rw [if_pos (by omega), if_pos (by omega), show j / 4 * 4 + j % 4 = j by omega, List.getElem?_eq_getElem h3, List.getElem?_eq_getElem h4] at e
 exact Option.some.inj e
theorem row_of_R {w : World} {base : Nat} {ok : Nat → Prop} {v : Value} {l : List S60} (h : Kd.R k60 60 w base ok v l) : w.ownsRow base 60 4 v l.length (sflat l) := by
 obtain ⟨_, inner, ho, hr⟩ := h
 have e := sflat_of hr
 subst e
 exact ho
theorem R_of_row {w : World} {base : Nat} {v : Value} {l : List S60} (h : w.ownsRow base 60 4 v l.length (sflat l)) : Kd.R k60 60 w base (fun _ => True) v l := ⟨fun _ _ => trivial, sflat l, h, sreps _ _ _ l⟩
theorem four_new (w : World) (a b c d : Value) (t : TypeId) : ∀ j u, [a, b, c, d][j]? = some u → (w.alloc (.cells #[a, b, c, d] t)).cell? ((⟨w.heap.size, 0, none⟩ : Addr).add j) = some u := by
 intro j u hj
 rw [add_plain]
 have hb := World.alloc_heap_new w (.cells #[a, b, c, d] t)
 rw [cell_of_row _ _ _ _ _ (0, 0) hb]
 rw [← hj]
 match j with
 | 0 => rfl
 | 1 => rfl
 | 2 => rfl
 | 3 => rfl
 | j + 4 => rfl
/-- blocks that stay -/
def Frm (FL : List (Nat × Obj)) (W : World) : Prop := ∀ q ∈ FL, W.heap[q.1]? = some q.2
theorem frm_own {β : Type} (FL : List (Nat × Obj)) (h : ∀ q ∈ FL, q.2.isCells = true) : Own (fun (_ : β) W => Frm FL W) := by
 intro s A B row hs hg hr q hq
 refine (hg.block q.1 (blk_lt (hs q hq)) (fun e => ?_)).trans (hs q hq)
 obtain ⟨o, ho, hc⟩ := hr q.1 e.symm
 have := (hs q hq).symm.trans ho
 rw [← Option.some.inj this, h q hq] at hc
 cases hc
theorem row_no_frm {W : World} {base : Nat} {v : Value} {n : Nat} {xs : List Value} (hrow : W.ownsRow base 60 4 v n xs) {g : Nat} {o : Obj} (hg : W.heap[g]? = some o) (ho : ∀ c m, o ≠ .cells c 60 m) : some g ≠ v.ownBlock := by
 rcases hrow.2 with ⟨rfl, _⟩ | ⟨g', cap, cur, rfl, _, hgb, _⟩
 ·simp [Value.ownBlock]
 ·intro e
  obtain rfl : g = g' := by simpa [Value.ownBlock] using e
  exact ho _ _ (Option.some.inj (hg.symm.trans hgb))
theorem frm_append {FL : List (Nat × Obj)} {W w1 : World} {ga base : Nat} {v : Value} {n : Nat} {xs : List Value} {tmp : Obj} (h : Frm FL W) (hrow : W.ownsRow base 60 4 v n xs) (ht : ∀ q ∈ FL, ∀ c m, q.2 ≠ .cells c 60 m) (ha : ∀ q ∈ FL, q.1 ≠ ga) (hg : (W.alloc tmp).grownBy w1 v.ownBlock) (v' : Value) : Frm FL (w1.setCell ⟨ga, 0, none⟩ v') := by
 intro q hq
 have h1 : (W.alloc tmp).heap[q.1]? = some q.2 := (Below.heap_alloc _ _ _ (blk_lt (h q hq))).trans (h q hq)
 have h2 : w1.heap[q.1]? = some q.2 := (hg.block q.1 (blk_lt h1) (row_no_frm hrow (h q hq) (ht q hq))).trans h1
 exact (Below.heap_setCell w1 ⟨ga, 0, none⟩ v' q.1 (ha q hq)).trans h2
theorem bytes_of_obj {W W' : World} {g g' : Nat} {o : Obj} {s : ByteArray} (h : W.heap[g]? = some o) (h' : W'.heap[g']? = some o) (hb : Lib.Bytes W g 0 s) : Lib.Bytes W' g' 0 s := by
 intro i hi
 have := hb i hi
 simp only [World.cell?] at this ⊢
 rw [h'] at *
 rw [h] at this
 exact this
theorem ck_convert {W : World} {gt : Nat} {s : ByteArray} (hb : Lib.Bytes W gt 0 s) (j : Nat) : (convert 69 9 (ckV gt s.size j)).run Tryd.prog W = .ok (.string (s.extract (60 * j) (60 * j + min 60 (s.size - 60 * j)))) W := by
 unfold ckV
 by_cases h : 60 * j < s.size
 ·rw [if_pos h]
  have := Lib.run_convert_window (P := Tryd.prog) W 69 5 9 Tryd.underlying69 Tryd.underlying5 Tryd.underlying9 gt 0 s hb (60 * j) (min 60 (s.size - 60 * j)) (min 60 (s.size - 60 * j)) (by omega)
  rw [Nat.zero_add] at this
  exact this
 ·rw [if_neg h]
  rw [Lib.run_convert_nil_bytes W 69 9 5 0 Tryd.underlying69 Tryd.underlying5 Tryd.underlying9]
  congr 2
  rw [show min 60 (s.size - 60 * j) = 0 by omega, Nat.add_zero]
  apply ByteArray.ext
  apply Array.toList_inj.1
  simp
theorem le_cap (w : World) (n : Nat) : n ≤ grownCap w n 0 5 := grownCap_ge w n 0 5
theorem bytes_ev {P : Program} {ops : Array Oper} {o : Oper} {rest : List Oper} {a : Act} {Q : Exit → Act → World → Prop} {W : World} (t : ByteArray) (hgd : o.guard = none)
 (hrun : (execOp a.eval o).run P W = .ok (.value (.slice (some ⟨W.heap.size, 0, none⟩) t.size (grownCap W t.size 0 5))) (Lib.bytesWorld W 5 t))
 (h : ∀ g c w1 ob, g = W.heap.size → t.size ≤ c → w1.heap[g]? = some ob → ob.isCells = true → (∀ c t m, ob = .cells c t m → t = 5) → Lib.Bytes w1 g 0 t → Below W.heap.size W w1 → wpList P ops Q rest (a.put o.dst (.slice (some ⟨g, 0, none⟩) t.size c)) w1) : wpList P ops Q (o :: rest) a W := by
 refine Kd.event_run hgd hrun (h _ _ _ _ rfl (le_cap _ _) (Lib.bytesWorld_at_new W 5 t) rfl (fun c t m e => by cases e; rfl) (fun i hi => ?_) (bytes_below (Below.refl _ _) (Nat.le_refl _) 5 t))
 rw [Nat.zero_add, Lib.bytesWorld_cell W 5 t i hi]
 have e : t.data.toList.getD i 0 = t[i] := by
  rw [List.getD_eq_getElem?_getD, List.getElem?_eq_getElem (by simpa using hi)]
  rfl
 rw [e]
theorem info60s : (Tryd.prog.info? 60).map (fun i => (i.zero, i.size, i.bytes)) = some (some (.agg #[(.int .i64 0), (.string ⟨#[]⟩), (.string ⟨#[]⟩), (.string ⟨#[]⟩)]), 4, 56) := by kernel_rfl
def sNew : ByteArray := ⟨#[115, 43]⟩
/-- one act for each chunk of a text -/
def sAct (tx : ByteArray) (j : Nat) : S60 := ⟨1, ⟨#[115, 43]⟩, tx.extract (60 * j) (60 * j + min 60 (tx.size - 60 * j)), ⟨#[]⟩⟩
def sChunks (tx : ByteArray) (n : Nat) : List S60 := (List.range n).map (sAct tx)
def impl_SnapActs.goF (k : Nat) (nm : ByteArray) : List S71 → List S60 → Option (List S60)
 | [], acc => some acc
 | f :: fs, acc => (impl_snapIndex.f k f.f0).bind fun t => impl_SnapActs.goF k nm fs (if t.2 = true ∧ f.f0.toList ≠ nm.toList then acc ++ [⟨4, f.f0, ⟨#[]⟩, ⟨#[]⟩⟩] else acc)
def impl_SnapActs.pre (has : Bool) : List S60 := if has = true then [⟨4, ⟨#[115, 43]⟩, ⟨#[]⟩, ⟨#[]⟩⟩] else []
def impl_SnapActs.f (k : Nat) (l0_0 : List S71) (a1_0 a1_1 : Int) (l1_2 : List Int) (a1_3 : ByteArray) : Option (List S60 × Bool) :=
 (impl_SnapText.f k a1_0 a1_1 l1_2 a1_3).bind fun t => if t.2 = true then (impl_DiskOk.f k l0_0).bind fun ok => if ok = true then (impl_FileAt.f k l0_0 (⟨#[115, 43]⟩ : ByteArray)).bind fun fa => (impl_SnapName.f a1_0).bind fun nm =>
  if t.1.size ≤ 1000000 ∧ l0_0.length ≤ 2000000 then (impl_SnapActs.goF k nm l0_0 (impl_SnapActs.pre fa.2 ++ sChunks t.1 ((t.1.size + 59) / 60) ++ [⟨2, ⟨#[115, 43]⟩, ⟨#[]⟩, ⟨#[]⟩⟩, ⟨3, ⟨#[115, 43]⟩, ⟨#[]⟩, nm⟩])).bind fun r => some (r, true) else none
  else some ([], false) else some ([], false)
theorem impl_SnapActs.goF_mono (nm : ByteArray) : ∀ (l : List S71) (acc : List S60) (k : Nat), LeO (impl_SnapActs.goF k nm l acc) (impl_SnapActs.goF (k + 1) nm l acc)
 | [], acc, k => LeO.refl _
 | f :: fs, acc, k => by
  simp only [impl_SnapActs.goF]
  exact LeO.bind (impl_snapIndex.mono _ _) (fun _ => impl_SnapActs.goF_mono nm fs _ k)
theorem impl_SnapActs.mono : ∀ a0 a1 a2 a3 a4 k, LeO (impl_SnapActs.f k a0 a1 a2 a3 a4) (impl_SnapActs.f (k + 1) a0 a1 a2 a3 a4) := by
 intro a0 a1 a2 a3 a4 k
 unfold impl_SnapActs.f
 refine LeO.bind (impl_SnapText.mono _ _ _ _ _) (fun _ => LeO.ite (LeO.bind (impl_DiskOk.mono _ _) (fun _ => LeO.ite (LeO.bind (impl_FileAt.mono _ _ _) (fun _ => LeO.bind (LeO.refl _) (fun _ => LeO.ite (LeO.bind (impl_SnapActs.goF_mono _ _ _ _) (fun _ => LeO.refl _)) (LeO.refl _)))) (LeO.refl _))) (LeO.refl _))
/-- the acts so far lie in their box, in a row of the call's own; blocks that stay; what was there is as it was -/
structure SSt (w W : World) (ga : Nat) (FL : List (Nat × Obj)) (v : Value) (l : List S60) : Prop where
 box : W.heap[ga]? = some (.cells #[v] 30 (0, 0))
 row : W.ownsRow w.heap.size 60 4 v l.length (sflat l)
 frm : Frm FL W
 below : Below w.heap.size w W
theorem SSt.call {w W W' : World} {ga : Nat} {FL : List (Nat × Obj)} {v : Value} {l : List S60} (h : SSt w W ga FL v l) (hb : Below W.heap.size W W') : SSt w W' ga FL v l :=
 ⟨blk_below h.box hb, row_of_R (Kd.R_below (R_of_row h.row) hb), fun q hq => blk_below (h.frm q hq) hb, below_step h.below hb⟩
theorem SSt.append {w W w1 : World} {ga : Nat} {FL : List (Nat × Obj)} {v v' : Value} {l k : List S60} {tmp : Obj} {m : Nat} {ys : List Value} (h : SSt w W ga FL v l) (ht : ∀ q ∈ FL, ∀ c m, q.2 ≠ .cells c 60 m) (ha : ∀ q ∈ FL, q.1 ≠ ga) (hga : w.heap.size ≤ ga)
 (hown : w1.ownsRow w.heap.size 60 4 v' m ys) (hg : (W.alloc tmp).grownBy w1 v.ownBlock) (hm : m = (l ++ k).length) (hys : ys = sflat l ++ sflat k) : Boxed w1 ga 30 v ∧ SSt w (w1.setCell ⟨ga, 0, none⟩ v') ga FL v' (l ++ k) := by
 obtain ⟨hv1, hv2, hr2, _, hb2⟩ := Boxed.appended h.box (by decide) h.row h.below.size hga hown hg
 exact ⟨hv1, hv2, by rw [sflat_append, ← hm, ← hys]; exact hr2, frm_append h.frm h.row ht ha hg v', h.below.trans hb2⟩
theorem box_3 {w : World} {g t : Nat} {a b c : Value} (h : w.heap[g]? = some (.cells #[a, b, c] t (0, 0))) (x y z : Value) : (((w.setCell ⟨g, 0, none⟩ x).setCell ⟨g, 1, none⟩ y).setCell ⟨g, 2, none⟩ z).heap[g]? = some (.cells #[x, y, z] t (0, 0)) :=
 blk_put (cs := #[x, y, c]) (blk_put (cs := #[x, b, c]) (blk_put (cs := #[a, b, c]) h 0 x rfl) 1 y rfl) 2 z rfl
theorem eight_new (w : World) (a b c d a' b' c' d' : Value) (t : TypeId) : ∀ j u, [a, b, c, d, a', b', c', d'][j]? = some u → (w.alloc (.cells #[a, b, c, d, a', b', c', d'] t)).cell? ((⟨w.heap.size, 0, none⟩ : Addr).add j) = some u := by
 intro j u hj
 rw [add_plain]
 have hb := World.alloc_heap_new w (.cells #[a, b, c, d, a', b', c', d'] t)
 rw [cell_of_row _ _ _ _ _ (0, 0) hb]
 rw [← hj]
 match j with
 | 0 => rfl
 | 1 => rfl
 | 2 => rfl
 | 3 => rfl
 | 4 => rfl
 | 5 => rfl
 | 6 => rfl
 | 7 => rfl
 | j + 8 => rfl
theorem impl_SnapActs.goF_at {k : Nat} {nm : ByteArray} {l0 : List S71} {i : Nat} {li : List S60} (h : i < l0.length) : impl_SnapActs.goF k nm (l0.drop i) li = (impl_snapIndex.f k (l0.getD i z71).f0).bind fun t => impl_SnapActs.goF k nm (l0.drop (i + 1)) (if t.2 = true ∧ (l0.getD i z71).f0.toList ≠ nm.toList then li ++ [⟨4, (l0.getD i z71).f0, ⟨#[]⟩, ⟨#[]⟩⟩] else li) := by
 have e : l0.drop i = l0.getD i z71 :: l0.drop (i + 1) := by
  rw [List.drop_eq_getElem_cons h, List.getD_eq_getElem?_getD, List.getElem?_eq_getElem h]
  rfl
 rw [e, impl_SnapActs.goF]
set_option maxRecDepth 100000 in
set_option maxHeartbeats 8000000 in
theorem impl_SnapActs.no1 (k : Nat) (A0_0 : Option Addr) (c0_0 : Nat) (l0_0 : List S71) (a1_0 a1_1 : Int) (A1_2 : Option Addr) (c1_2 : Nat) (l1_2 : List Int) (a1_3 tx : ByteArray) (w : World) (hr0_0 : Kd.C k71 w A0_0 l0_0.length l0_0) (hc0_0 : l0_0.length ≤ c0_0) (hr1_2 : Kd.C (Kd.int .i64) w A1_2 l1_2.length l1_2) (hc1_2 : l1_2.length ≤ c1_2) (h1 : impl_SnapText.f k a1_0 a1_1 l1_2 a1_3 = some (tx, false)) :
 Calls Tryd.prog 10 #[.agg #[.slice A0_0 l0_0.length c0_0], .agg #[.int .i64 a1_0, .int .i64 a1_1, .slice A1_2 l1_2.length c1_2, .string a1_3]] w fun e w' => e = .returned (.tuple #[.slice none 0 0, .bool false]) ∧ Below w.heap.size w w' := by
 have hu35 := Tryd.underlying35
 have hu37 := Tryd.underlying37
 have HR1_2 := aM hr1_2
 have HC1_2 := aM hc1_2
 have A1 := aM h1
 clear hr1_2 hc1_2 h1 hr0_0 hc0_0
 have HB := aM (Below.refl w.heap.size w)
 go_enter Tryd.func10, Tryd.ntmps10
 go_wp2_with (first | ((with_reducible refine gate_dst (N := 2) rfl ?_); refine bxE 2 #[.slice A0_0 l0_0.length c0_0] 35 ?_; intro gd hg w5 hbox hb; have BD := aM (hbox); replace HB := aM (below_step (uL HB) hb); clear hb hbox hg) | ((with_reducible refine gate_dst (N := 3) rfl ?_); refine bxE 3 #[.int .i64 a1_0, .int .i64 a1_1, .slice A1_2 l1_2.length c1_2, .string a1_3] 37 ?_; intro gs hg w6 hbox hb; have BS := aM (hbox); have NB := neL hg BD; have NC := neG hg BD; replace BD := blkB BD hb; replace HB := aM (below_step (uL HB) hb); clear hb hbox hg; have hnb7 := NC.out; have hnc7 := NB.out; have hcz8_0 := czA BS.out 0 (.int .i64 a1_0); have hcz8_1 := czA BS.out 1 (.int .i64 a1_1); have hcz8_2 := czA BS.out 2 (.slice A1_2 l1_2.length c1_2); have hcz8_3 := czA BS.out 3 (.string a1_3)) | ((with_reducible refine gate_callee (f := 32) rfl ?_); refine gL (some 19) Tryd.func32 #[.agg #[.int .i64 a1_0, .int .i64 a1_1, .slice A1_2 l1_2.length c1_2, .string a1_3]] ?_; (with_reducible refine (impl_SnapText.calls k a1_0 a1_1 _ _ l1_2 a1_3 tx false _ ?side1 ?side2 A1.out).mono ?_); (case side1 => exact uC HR1_2 HB); (case side2 => exact HC1_2.out); rintro e w9 ⟨rfl, hb⟩; refine ⟨_, rfl, ?_⟩; replace HB := aM (below_step (uL HB) hb); clear hb))
 go_ret2
 exact ⟨rfl, uL HB⟩
set_option maxRecDepth 100000 in
set_option maxHeartbeats 8000000 in
theorem impl_SnapActs.no2 (k : Nat) (A0_0 : Option Addr) (c0_0 : Nat) (l0_0 : List S71) (a1_0 a1_1 : Int) (A1_2 : Option Addr) (c1_2 : Nat) (l1_2 : List Int) (a1_3 tx : ByteArray) (w : World) (hr0_0 : Kd.C k71 w A0_0 l0_0.length l0_0) (hc0_0 : l0_0.length ≤ c0_0) (hr1_2 : Kd.C (Kd.int .i64) w A1_2 l1_2.length l1_2) (hc1_2 : l1_2.length ≤ c1_2) (h1 : impl_SnapText.f k a1_0 a1_1 l1_2 a1_3 = some (tx, true)) (h2 : impl_DiskOk.f k l0_0 = some false) :
 Calls Tryd.prog 10 #[.agg #[.slice A0_0 l0_0.length c0_0], .agg #[.int .i64 a1_0, .int .i64 a1_1, .slice A1_2 l1_2.length c1_2, .string a1_3]] w fun e w' => e = .returned (.tuple #[.slice none 0 0, .bool false]) ∧ Below w.heap.size w w' := by
 have hu35 := Tryd.underlying35
 have hu37 := Tryd.underlying37
 have HR0_0 := aM hr0_0
 have HC0_0 := aM hc0_0
 have HR1_2 := aM hr1_2
 have HC1_2 := aM hc1_2
 have A1 := aM h1
 have A2 := aM h2
 clear hr1_2 hc1_2 h1 h2 hr0_0 hc0_0
 have HB := aM (Below.refl w.heap.size w)
 go_enter Tryd.func10, Tryd.ntmps10
 go_wp2_with (first | ((with_reducible refine gate_dst (N := 2) rfl ?_); refine bxE 2 #[.slice A0_0 l0_0.length c0_0] 35 ?_; intro gd hg w5 hbox hb; have BD := aM (hbox); replace HB := aM (below_step (uL HB) hb); clear hb hbox hg) | ((with_reducible refine gate_dst (N := 3) rfl ?_); refine bxE 3 #[.int .i64 a1_0, .int .i64 a1_1, .slice A1_2 l1_2.length c1_2, .string a1_3] 37 ?_; intro gs hg w6 hbox hb; have BS := aM (hbox); have NB := neL hg BD; have NC := neG hg BD; replace BD := blkB BD hb; replace HB := aM (below_step (uL HB) hb); clear hb hbox hg; have hnb7 := NC.out; have hnc7 := NB.out; have hcz8_0 := czA BS.out 0 (.int .i64 a1_0); have hcz8_1 := czA BS.out 1 (.int .i64 a1_1); have hcz8_2 := czA BS.out 2 (.slice A1_2 l1_2.length c1_2); have hcz8_3 := czA BS.out 3 (.string a1_3)) | ((with_reducible refine gate_callee (f := 32) rfl ?_); refine gL (some 19) Tryd.func32 #[.agg #[.int .i64 a1_0, .int .i64 a1_1, .slice A1_2 l1_2.length c1_2, .string a1_3]] ?_; (with_reducible refine (impl_SnapText.calls k a1_0 a1_1 _ _ l1_2 a1_3 tx true _ ?side1 ?side2 A1.out).mono ?_); (case side1 => exact uC HR1_2 HB); (case side2 => exact HC1_2.out); rintro e w9 ⟨rfl, hb⟩; refine ⟨_, rfl, ?_⟩; replace BD := blkB BD hb; replace HB := aM (below_step (uL HB) hb); clear hb; have hcz9 := czA BD.out 0 (.slice A0_0 l0_0.length c0_0)) | (go_at_call 33; (with_reducible refine (impl_DiskOk.calls k _ _ l0_0 false _ ?side1 ?side2 A2.out).mono ?_); (case side1 => exact uC HR0_0 HB); (case side2 => exact HC0_0.out); rintro e w10 ⟨rfl, hb⟩; replace HB := aM (below_step (uL HB) hb); clear hb))
 go_ret2
 exact ⟨rfl, uL HB⟩
theorem blk_set {w : World} {g g' : Nat} {o : Obj} (h : w.heap[g]? = some o) (hne : g ≠ g') (v : Value) : (w.setCell ⟨g', 0, none⟩ v).heap[g]? = some o := (Below.heap_setCell w ⟨g', 0, none⟩ v g hne).trans h
theorem R_set {w : World} {base g : Nat} {v u : Value} {l : List S60} {c : Value} (h : Kd.R k60 60 w base (fun _ => True) v l) (hb : w.heap[g]? = some (.cells #[c] 30 (0, 0))) : Kd.R k60 60 (w.setCell ⟨g, 0, none⟩ u) base (fun _ => True) v l :=
 Kd.R_mono (Kd.R_far (p := ⟨g, 0, none⟩) (Kd.R_types h hb (by decide)) (fun _ hk => hk.2) u) (fun _ _ => trivial)
theorem box_set {w : World} {g : Nat} {c : Value} (hb : w.heap[g]? = some (.cells #[c] 30 (0, 0))) (v : Value) : (w.setCell ⟨g, 0, none⟩ v).heap[g]? = some (.cells #[v] 30 (0, 0)) := blk_put (cs := #[c]) hb 0 v rfl
section Main
attribute [local go_sem] Oper.semAt_some
set_option maxRecDepth 100000 in
set_option maxHeartbeats 8000000 in
theorem impl_SnapActs.yes (k : Nat) (A0_0 : Option Addr) (c0_0 : Nat) (l0_0 : List S71) (a1_0 a1_1 : Int) (A1_2 : Option Addr) (c1_2 : Nat) (l1_2 : List Int) (a1_3 tx : ByteArray) (w : World) (hr0_0 : Kd.C k71 w A0_0 l0_0.length l0_0) (hc0_0 : l0_0.length ≤ c0_0) (hr1_2 : Kd.C (Kd.int .i64) w A1_2 l1_2.length l1_2) (hc1_2 : l1_2.length ≤ c1_2) (h1 : impl_SnapText.f k a1_0 a1_1 l1_2 a1_3 = some (tx, true)) (h2 : impl_DiskOk.f k l0_0 = some true)
 (ft nm : ByteArray) (has : Bool) (h3 : impl_FileAt.f k l0_0 (⟨#[115, 43]⟩ : ByteArray) = some (ft, has)) (h4 : impl_SnapName.f a1_0 = some nm) (htx : tx.size ≤ 1000000) (hl0 : l0_0.length ≤ 2000000) (r1 : List S60)
 (h5 : impl_SnapActs.goF k nm l0_0 (impl_SnapActs.pre has ++ sChunks tx ((tx.size + 59) / 60) ++ [⟨2, ⟨#[115, 43]⟩, ⟨#[]⟩, ⟨#[]⟩⟩, ⟨3, ⟨#[115, 43]⟩, ⟨#[]⟩, nm⟩]) = some r1) (htab : Cx.Ok w) :
 Calls Tryd.prog 10 #[.agg #[.slice A0_0 l0_0.length c0_0], .agg #[.int .i64 a1_0, .int .i64 a1_1, .slice A1_2 l1_2.length c1_2, .string a1_3]] w fun e w' => ∃ v0_ : Value, e = .returned (.tuple #[v0_, .bool true]) ∧ Kd.R k60 60 w' w.heap.size (fun _ => True) v0_ r1 ∧ Below w.heap.size w w' := by
 have hu35 := Tryd.underlying35
 have hu37 := Tryd.underlying37
 have hu60 := Tryd.underlying60
 have HR0_0 := aM hr0_0
 have HC0_0 := aM hc0_0
 have HR1_2 := aM hr1_2
 have HC1_2 := aM hc1_2
 have A1 := aM h1
 have A2 := aM h2
 have A3 := aM h3
 have A4 := aM h4
 have A5 := aM h5
 have HTX := aM htx
 have HL0 := aM hl0
 have HTAB := aM htab
 clear hr1_2 hc1_2 h1 h2 hr0_0 hc0_0 h3 h4 h5 htx hl0 htab
 have HB := aM (Below.refl w.heap.size w)
 refine callsIn_wide (n := 3).1 ?_
 refine callsIn_of_wp_marks Tryd.func10 rfl trivial ?_ rfl
 refine wpIn_wide.2 ?_
 simp only [Tryd.ntmps10, List.size_toArray, List.length_cons, List.length_nil, Nat.reduceAdd, Nat.reduceSub, Array.replicate_succ, Array.replicate_zero, List.push_toArray, List.append_toArray, List.nil_append, List.cons_append]
 go_upto_if 34 with (first | ((with_reducible refine gate_dst (N := 2) rfl ?_); refine bxE 2 #[.slice A0_0 l0_0.length c0_0] 35 ?_; intro gd hg w5 hbox hb; have BD := aM (hbox); replace HB := aM (below_step (uL HB) hb); clear hb hbox hg) | ((with_reducible refine gate_dst (N := 3) rfl ?_); refine bxE 3 #[.int .i64 a1_0, .int .i64 a1_1, .slice A1_2 l1_2.length c1_2, .string a1_3] 37 ?_; intro gs hg w6 hbox hb; have BS := aM (hbox); have NB := neL hg BD; have NC := neG hg BD; replace BD := blkB BD hb; replace HB := aM (below_step (uL HB) hb); clear hb hbox hg; have hnb7 := NC.out; have hnc7 := NB.out; have hcz8_0 := czA BS.out 0 (.int .i64 a1_0); have hcz8_1 := czA BS.out 1 (.int .i64 a1_1); have hcz8_2 := czA BS.out 2 (.slice A1_2 l1_2.length c1_2); have hcz8_3 := czA BS.out 3 (.string a1_3)) | ((with_reducible refine gate_callee (f := 32) rfl ?_); refine gL (some 19) Tryd.func32 #[.agg #[.int .i64 a1_0, .int .i64 a1_1, .slice A1_2 l1_2.length c1_2, .string a1_3]] ?_; (with_reducible refine (impl_SnapText.calls k a1_0 a1_1 _ _ l1_2 a1_3 tx true _ ?side1 ?side2 A1.out).mono ?_); (case side1 => exact uC HR1_2 HB); (case side2 => exact HC1_2.out); rintro e w9 ⟨rfl, hb⟩; refine ⟨_, rfl, ?_⟩; replace BD := blkB BD hb; replace BS := blkB BS hb; replace HB := aM (below_step (uL HB) hb); clear hb; have hcz9 := czA BD.out 0 (.slice A0_0 l0_0.length c0_0)) | (go_at_call 33; (with_reducible refine (impl_DiskOk.calls k _ _ l0_0 true _ ?side1 ?side2 A2.out).mono ?_); (case side1 => exact uC HR0_0 HB); (case side2 => exact HC0_0.out); rintro e w10 ⟨rfl, hb⟩; replace BD := blkB BD hb; replace BS := blkB BS hb; replace HB := aM (below_step (uL HB) hb); clear hb) | ((with_reducible refine gate_dst (N := 8) rfl ?_); refine bxE 8 #[.slice none 0 0] 30 ?_; intro ga hg w11 hbox hb; have BA := aM (hbox); have GA := szG hg (uL HB); have NDA := neL hg BD; have NSA := neL hg BS; replace BD := blkB BD hb; replace BS := blkB BS hb; replace HB := aM (below_step (uL HB) hb); clear hb hbox hg; have hcz11 := czA BD.out 0 (.slice A0_0 l0_0.length c0_0)) | ((with_reducible refine gate_callee (f := 34) rfl ?_); refine gL (some 31) Tryd.func34 #[.agg #[.slice A0_0 l0_0.length c0_0], .string ⟨#[115, 43]⟩] ?_; (with_reducible refine (impl_FileAt.calls k _ _ l0_0 _ ft has _ ?side1 ?side2 A3.out).mono ?_); (case side1 => exact uC HR0_0 HB); (case side2 => exact HC0_0.out); rintro e w12 ⟨rfl, hb⟩; refine ⟨_, rfl, ?_⟩; replace BD := blkB BD hb; replace BS := blkB BS hb; replace BA := blkB BA hb; replace HB := aM (below_step (uL HB) hb); clear hb))
 go_cut [38] from 35 to 38 (fun v38 wc => ∃ va : Value, Aside0 (wc.heap[ga]? = some (.cells #[va] 30 (0, 0))) ∧ Aside0 (Kd.R k60 60 wc w.heap.size (fun _ => True) va (impl_SnapActs.pre has)) ∧ Aside0 (wc.heap[gd]? = some (.cells #[.slice A0_0 l0_0.length c0_0] 35 (0, 0))) ∧ Aside0 (wc.heap[gs]? = some (.cells #[.int .i64 a1_0, .int .i64 a1_1, .slice A1_2 l1_2.length c1_2, .string a1_3] 37 (0, 0))) ∧ Aside0 (Below w.heap.size w wc))
 case first =>
  clear hcz8_0 hcz8_1 hcz8_2 hcz8_3 hcz9 hcz11
  cases has with
  | false =>
   go_wp2
   go_meet
   case rel => exact ⟨_, BA, ⟨R_of_row (World.ownsRow_nil _ _ _ _)⟩, BD, BS, HB⟩
  | true =>
   have hcza := czA BA.out 0 (.slice none 0 0)
   have hfza := blk_frozen BA.out 0
   go_wp2_with (first | ((with_reducible refine gate_builtin (b := .append) (xs := #[.tmp 35, .tmp 37]) rfl ?_); at_builtin; refine Kd.R_append k60 (w0 := w) w.heap.size rfl (.tmp 35) (.tmp 37) 30 60 (.agg #[(.int .i64 0), (.string ⟨#[]⟩), (.string ⟨#[]⟩), (.string ⟨#[]⟩)]) 56 rfl Tryd.underlying30 info60 rfl (by decide) (by omega) (.slice none 0 0) [] (⟨4, (⟨#[115, 43]⟩ : ByteArray), (⟨#[]⟩ : ByteArray), (⟨#[]⟩ : ByteArray)⟩ : S60) [.int .i64 4, .string (⟨#[115, 43]⟩ : ByteArray), .string (⟨#[]⟩ : ByteArray), .string (⟨#[]⟩ : ByteArray)] (fun _ => True) (fun _ => False) rfl rfl ?aP (fun _ hk => hk.elim) ?aF ?aO ?aB ?aS ?aL ?_; (case aP => exact k60_mkM _ _ _ (⟨4, (⟨#[115, 43]⟩ : ByteArray), (⟨#[]⟩ : ByteArray), (⟨#[]⟩ : ByteArray)⟩ : S60)); (case aB => exact (uL HB)); (case aF => exact (fun _ _ => trivial)); (case aO => exact R_of_row (l := []) (World.ownsRow_nil _ _ _ _)); (case aS => exact (below_size (uL HB))); (case aL => simp); intro v202 w29 ho hb hg hat; have HO := aM (ho); replace BA := aM (blk_grown (g := ga) (o := .cells #[.slice none 0 0] 30 (0, 0)) (uB BA) hg (by simp [Value.ownBlock])); replace BD := aM (blk_grown (g := gd) (o := .cells #[.slice A0_0 l0_0.length c0_0] 35 (0, 0)) (uB BD) hg (by simp [Value.ownBlock])); replace BS := aM (blk_grown (g := gs) (o := .cells #[.int .i64 a1_0, .int .i64 a1_1, .slice A1_2 l1_2.length c1_2, .string a1_3] 37 (0, 0)) (uB BS) hg (by simp [Value.ownBlock])); replace HB := aM (hb); clear ho hb hg hat hcza hfza; have hcza := czA BA.out 0 (.slice none 0 0); have hfza := blk_frozen BA.out 0; obtain ⟨Aa, ca, ea⟩ := Kd.R_slice HO.out; subst ea))
   go_meet
   case rel => exact ⟨_, ⟨box_set BA.out _⟩, ⟨R_set HO.out BA.out⟩, ⟨blk_set BD.out NDA.out _⟩, ⟨blk_set BS.out NSA.out _⟩, ⟨HB.out.setCell (p := ⟨ga, 0, none⟩) GA.out _⟩⟩
 case rest =>
  clear BA BD BS HB hcz8_0 hcz8_1 hcz8_2 hcz8_3 hcz9 hcz11
  obtain ⟨va, BA, HO, BD, BS, HB⟩ := hcut
  have hcza := czA BA.out 0 va
  go_wp2_with (first | ((with_reducible refine gate_dst (N := 40) rfl ?_); refine bytes_ev tx rfl ?hr ?_; (case hr => first | exact print_bytes (P := Tryd.prog) 9 69 5 Tryd.underlying9 Tryd.underlying69 Tryd.underlying5 tx _ | (go_simp; rw [print_bytes (P := Tryd.prog) 9 69 5 Tryd.underlying9 Tryd.underlying69 Tryd.underlying5 tx _]; rfl)); intro gt ct w20 ob hg hct hob hoc ho5 hby hb; have HCT := aM hct; have BT := aM hob; have HOC := aM hoc; have H5 := aM ho5; have HBY := aM (And.intro hob hby); replace BA := blkB BA hb; replace BD := blkB BD hb; replace BS := blkB BS hb; replace HO := aM (Kd.R_below (uR HO) hb); replace HB := aM (below_step (uL HB) hb); clear hb hg hct hob hoc ho5 hby) | (go_at_call 35; refine (chunk_calls _ _ _ _).mono ?_; rintro e w21 ⟨Bs, Bn, rfl, hb1, hb2, hb3, hb4, hb⟩; have BBs := aM hb1; have BBn := aM hb2; replace BT := blkB BT hb; replace BA := blkB BA hb; replace BD := blkB BD hb; replace BS := blkB BS hb; replace HO := aM (Kd.R_below (uR HO) hb); replace HB := aM (below_step (uL HB) hb); clear hb hb1 hb2 hb3 hb4))
  obtain ⟨FL, hFL⟩ : ∃ FL : List (Nat × Obj), FL = [(gt, ob), (Bs, .cells #[.slice (some ⟨gt, 0, none⟩) tx.size ct] 69 (0, 0)), (Bn, .cells #[.int .i64 60] 3 (0, 0)), (gd, .cells #[.slice A0_0 l0_0.length c0_0] 35 (0, 0)), (gs, .cells #[.int .i64 a1_0, .int .i64 a1_1, .slice A1_2 l1_2.length c1_2, .string a1_3] 37 (0, 0))] := ⟨_, rfl⟩
  have FC : Aside0 (∀ q ∈ FL, q.2.isCells = true) := ⟨by rw [hFL]; intro q hq; simp only [List.mem_cons, List.not_mem_nil, or_false] at hq; rcases hq with rfl | rfl | rfl | rfl | rfl <;> first | exact HOC.out | rfl⟩
  have F60 : Aside0 (∀ q ∈ FL, ∀ c m, q.2 ≠ .cells c 60 m) := ⟨by rw [hFL]; intro q hq c m; simp only [List.mem_cons, List.not_mem_nil, or_false] at hq; rcases hq with rfl | rfl | rfl | rfl | rfl <;> first | (intro e; exact absurd (H5.out _ _ _ e) (by decide)) | (intro e; cases e)⟩
  have F0 : Aside0 (Frm FL w21) := ⟨by rw [hFL]; intro q hq; simp only [List.mem_cons, List.not_mem_nil, or_false] at hq; rcases hq with rfl | rfl | rfl | rfl | rfl <;> first | exact BT.out | exact BBs.out | exact BBn.out | exact BD.out | exact BS.out⟩
  have FA : Aside0 (∀ q ∈ FL, q.1 ≠ ga) := ⟨by rw [hFL]; intro q hq; simp only [List.mem_cons, List.not_mem_nil, or_false] at hq; rcases hq with rfl | rfl | rfl | rfl | rfl <;> first | exact fun e => absurd (H5.out _ _ _ (Option.some.inj (BT.out.symm.trans (by rw [show gt = ga from e]; exact BA.out)))) (by decide) | exact blk_ne BBs.out BA.out (by decide) | exact blk_ne BBn.out BA.out (by decide) | exact blk_ne BD.out BA.out (by decide) | exact blk_ne BS.out BA.out (by decide)⟩
  have FX : Aside0 (∀ W, Frm FL W → W.heap[gt]? = some ob ∧ W.heap[Bs]? = some (.cells #[.slice (some ⟨gt, 0, none⟩) tx.size ct] 69 (0, 0)) ∧ W.heap[Bn]? = some (.cells #[.int .i64 60] 3 (0, 0)) ∧ W.heap[gd]? = some (.cells #[.slice A0_0 l0_0.length c0_0] 35 (0, 0)) ∧ W.heap[gs]? = some (.cells #[.int .i64 a1_0, .int .i64 a1_1, .slice A1_2 l1_2.length c1_2, .string a1_3] 37 (0, 0))) := ⟨by rw [hFL]; intro W h; exact ⟨h (gt, ob) (by simp), h (Bs, _) (by simp), h (Bn, _) (by simp), h (gd, _) (by simp), h (gs, _) (by simp)⟩⟩
  clear hFL hcza
  have HSZ := aM (HB.out.size)
  obtain ⟨i0, hi, hz0, hz1, hz2⟩ := info_parts info60s
  have hpre : (impl_SnapActs.pre has).length ≤ 1 := by cases has <;> simp [impl_SnapActs.pre]
  refine (wpIn_wide (n := 3)).1 ?_
  refine wpIn_rangeFunc_ownG rfl (by decide) (gf := 69) (lb := #[.pointer (some ⟨Bs, 0, none⟩), .pointer (some ⟨Bn, 0, none⟩)]) rfl trivial (enters_of Tryd.func69 (by kernel_rfl) rfl) (chunk_stops 2 (by decide) gt Bs Bn tx.size ct HCT.out (by have := HTX.out; omega) w21 (blk_lt BBs.out) (blk_lt BBn.out) (czA BBs.out 0 _) (czA BBn.out 0 _)) CkKp.trans (CkKp.putObj (blk_lt BT.out) (blk_lt BBs.out) (blk_lt BBn.out)) (Below.refl _ _) (fun _ => rfl)
   (fun pre W => (∃ v, Boxed W ga 30 v ∧ W.ownsRow w.heap.size 60 4 v (impl_SnapActs.pre has ++ pre.map (sAct tx)).length (sflat (impl_SnapActs.pre has ++ pre.map (sAct tx))) ∧ True) ∧ (Frm FL W ∧ Below w.heap.size w W))
   (fun _ _ _ => False)
   (OwnFrom.and (Own.from (holdsRow_own w.heap.size ga 30 60 4 (fun (pre : List Nat) => (impl_SnapActs.pre has ++ pre.map (sAct tx)).length) (fun (pre : List Nat) => sflat (impl_SnapActs.pre has ++ pre.map (sAct tx))) (fun _ _ => True)) _) (OwnFrom.and (Own.from (frm_own FL FC.out) _) (ownFrom_below (Nat.le_refl _) HSZ.out)))
   (fun _ _ _ _ _ hs _ _ => hs)
   ⟨⟨va, BA.out, by rw [List.map_nil, List.append_nil]; exact row_of_R HO.out, trivial⟩, F0.out, HB.out⟩
   (fun x => { tmps := #[.agg #[.slice A0_0 l0_0.length c0_0], .agg #[.int .i64 a1_0, .int .i64 a1_1, .slice A1_2 l1_2.length c1_2, .string a1_3], .pointer (some ⟨gd, 0, none⟩), .pointer (some ⟨gs, 0, none⟩), .slice none 0 0, .bool false, .string tx, .bool true, .pointer (some ⟨ga, 0, none⟩), .string ft, .bool has, ckV gt tx.size x, undef, undef, undef, undef, undef, .tuple #[.string tx, .bool true], .agg #[.int .i64 a1_0, .int .i64 a1_1, .slice A1_2 l1_2.length c1_2, .string a1_3], .tuple #[.string tx, .bool true], .string tx, .bool true, .bool true, .bool false, .bool false, .agg #[.slice A0_0 l0_0.length c0_0], .bool true, .bool false, .bool false, .tuple #[.string ft, .bool has], .agg #[.slice A0_0 l0_0.length c0_0], .tuple #[.string ft, .bool has], .string ft, .bool has, .bool has, u35, u36, u37, u38, .string tx, .slice (some ⟨gt, 0, none⟩) tx.size ct, .func (.func 69) #[] #[.pointer (some ⟨Bs, 0, none⟩), .pointer (some ⟨Bn, 0, none⟩)], ckV gt tx.size x, undef, undef, undef, undef, undef, undef, undef, undef, undef, undef, undef, undef, undef, undef, undef, undef, undef, undef, undef, undef, undef, undef, undef, undef, undef, undef, undef, undef, undef, undef, undef, undef, undef, undef, undef, undef, undef, undef, undef, undef, undef, undef, undef], defers := [] }) ?assign ?body ?done ?stop
  case assign =>
   intro l x W K hK
   gi_wp2
   exact hK
  case body =>
   rintro l pre x W ⟨⟨v, hv, hrow, _⟩, hfr, hB⟩ hlt
   have hc := hv.cell
   have hX := FX.out W hfr
   have hcv := ck_convert (bytes_of_obj HBY.out.1 hX.1 HBY.out.2) x
   have hlen : (impl_SnapActs.pre has ++ pre.map (sAct tx)).length ≤ 20000 := by have := HTX.out; rw [List.length_append, List.length_map]; omega
   have HXS := aM hX
   clear hX
   gi_wp2_with (gi_at_builtin; refine wpListIn_append_own _ rfl _ _ 30 rfl w.heap.size 60 i0 (.agg #[(.int .i64 0), (.string ⟨#[]⟩), (.string ⟨#[]⟩), (.string ⟨#[]⟩)]) 4 56 Tryd.underlying30 hi hz0 hz1 hz2 rfl (by decide) _ _ _ rfl (hrow.alloc _) ⟨W.heap.size, 0, none⟩ 1 1 [.int .i64 1, .string ⟨#[115, 43]⟩, .string (tx.extract (60 * x) (60 * x + min 60 (tx.size - 60 * x))), .string ⟨#[]⟩] rfl rfl (four_new _ _ _ _ _ _) (by simp [Value.oneCell']) (by unfold maxLen; omega) (by omega) (by have := hB.size; simp; omega) ?_; intro v' w1 hown' hgrow _; obtain ⟨g', cap', rfl⟩ := ownsRow_succ hown'; obtain ⟨hv1, hv2, hr2, hk2, hb2⟩ := hv.appended (by decide) hrow hB.size GA.out hown' hgrow; have HFR := aM (frm_append hfr hrow F60.out FA.out hgrow (.slice (some ⟨g', 0, none⟩) ((impl_SnapActs.pre has ++ pre.map (sAct tx)).length + 1) cap')); have hc1 := hv1.cell; have hf1 := hv1.frozen)
   have e1 : (impl_SnapActs.pre has ++ pre.map (sAct tx)).length = (impl_SnapActs.pre has).length + pre.length := by simp
   have HFR2 := HFR.out
   rw [e1] at hv2 hr2 hk2 hb2 HFR2
   have hX2 := FX.out _ HFR2
   refine ⟨hk2.from _, ⟨hX2.1.trans HXS.out.1.symm, hX2.2.1.trans HXS.out.2.1.symm, hX2.2.2.1.trans HXS.out.2.2.1.symm⟩, ⟨⟨_, hv2, ?_, trivial⟩, HFR2, hB.trans hb2⟩⟩
   have e2 : impl_SnapActs.pre has ++ (pre ++ [x]).map (sAct tx) = (impl_SnapActs.pre has ++ pre.map (sAct tx)) ++ [sAct tx x] := by simp
   rw [e2, sflat_append, List.length_append, e1]
   exact hr2
  case done =>
   rintro D ys W hD rfl ⟨⟨v, hv, hrow, _⟩, hfr, hB⟩ hK
   obtain ⟨L, hL⟩ : ∃ L, L = impl_SnapActs.pre has ++ sChunks tx ((tx.size + 59) / 60) := ⟨_, rfl⟩
   have hrowL : W.ownsRow w.heap.size 60 4 v L.length (sflat L) := by rw [hL]; exact hrow
   have hlen : L.length ≤ 20000 := by have := HTX.out; rw [hL, List.length_append, sChunks, List.length_map, List.length_range]; omega
   have A6 := A5.out
   rw [← hL] at A6
   have HGO := aM A6
   have FL2 : Aside0 (∀ q ∈ (D, Obj.deferred (some [])) :: FL, ∀ c m, q.2 ≠ .cells c 60 m) := ⟨fun q hq => (List.mem_cons.1 hq).elim (fun e => by subst e; intro c m e; cases e) (F60.out q)⟩
   have FA2 : Aside0 (∀ q ∈ (D, Obj.deferred (some [])) :: FL, q.1 ≠ ga) := ⟨fun q hq => (List.mem_cons.1 hq).elim (fun e => by subst e; intro e; rw [show D = ga from e] at hK; exact absurd (hK.symm.trans hv) (by simp)) (FA.out q)⟩
   have ST : Aside0 (SSt w W ga ((D, .deferred (some [])) :: FL) v L) := ⟨⟨hv, hrowL, fun q hq => (List.mem_cons.1 hq).elim (fun e => by subst e; exact hK) (hfr q), hB⟩⟩
   have HLEN := aM hlen
   have HDW := aM (show w.heap.size ≤ D from Nat.le_trans HSZ.out hD)
   clear hv hrow hfr hB hK hL hrowL A6 hlen hD A5 BA BD BS BBs BBn BT HO HB F0
   have hX := FX.out W (fun q hq => ST.out.frm q (List.mem_cons_of_mem _ hq))
   have hczs := czA hX.2.2.2.2 0 (.int .i64 a1_0)
   clear hX
   go_upto_region 12 with (first | ((with_reducible refine gate_callee (f := 36) rfl ?_); refine gL (some 51) Tryd.func36 #[.int .i64 a1_0] ?_; (with_reducible refine (impl_SnapName.calls a1_0 nm _ A4.out (Cx.on HTAB.out ST.out.below)).mono ?_); rintro e w30 ⟨rfl, hb⟩; refine ⟨_, rfl, ?_⟩; replace ST := aM (ST.out.call hb); clear hb hczs))
   have hcza := czA ST.out.box 0 v
   have HLB := aM (ST.out.below.size)
   go_upto_region 13 with (first | ((with_reducible refine gate_builtin (b := .append) (xs := #[.tmp 52, .tmp 56]) rfl ?_); at_builtin; refine wpList_append_own (w := _) rfl _ _ 30 rfl w.heap.size 60 i0 (.agg #[(.int .i64 0), (.string ⟨#[]⟩), (.string ⟨#[]⟩), (.string ⟨#[]⟩)]) 4 56 Tryd.underlying30 hi hz0 hz1 hz2 rfl (by decide) v L.length (sflat L) rfl ((row_of_R (Kd.R_below (R_of_row ST.out.row) ((Below.refl _ _).alloc (Nat.le_refl _) _)))) ⟨w30.heap.size, 0, none⟩ 2 2 [.int .i64 2, .string ⟨#[115, 43]⟩, .string ⟨#[]⟩, .string ⟨#[]⟩, .int .i64 3, .string ⟨#[115, 43]⟩, .string ⟨#[]⟩, .string nm] rfl rfl (eight_new _ _ _ _ _ _ _ _ _ _) (by simp [Value.oneCell']) (by have := HLEN.out; unfold maxLen; omega) (by have := HLEN.out; omega) (by have := HLB.out; simp; omega) ?_; intro v2 w31 hown2 hgrow2 _; obtain ⟨g2, cap2, rfl⟩ := ownsRow_succ (k := L.length + 1) hown2; obtain ⟨hv1, hst⟩ := ST.out.append (k := [⟨2, ⟨#[115, 43]⟩, ⟨#[]⟩, ⟨#[]⟩⟩, ⟨3, ⟨#[115, 43]⟩, ⟨#[]⟩, nm⟩]) FL2.out FA2.out GA.out hown2 hgrow2 (by simp) rfl; have ST2 := aM hst; have hc1 := hv1.cell; have hf1 := hv1.frozen; clear hst hgrow2 hown2 hcza ST))
   clear hc1 hf1
   obtain ⟨v3, hv3⟩ : ∃ v3, Value.slice (some ⟨g2, 0, none⟩) (L.length + 1 + 1) cap2 = v3 := ⟨_, rfl⟩
   rw [hv3] at ST2 ⊢
   obtain ⟨w32, hw32⟩ : ∃ w32, w31.setCell ⟨ga, 0, none⟩ v3 = w32 := ⟨_, rfl⟩
   rw [hw32] at ST2 ⊢
   clear hv3 hw32
   have hX := FX.out w32 (fun q hq => ST2.out.frm q (List.mem_cons_of_mem _ hq))
   have hczd := czA hX.2.2.2.1 0 (.slice A0_0 l0_0.length c0_0)
   clear hX
   go_wp2
   go_loopw [61] (fun v61 wr => ∃ (i : Nat) (li : List S60) (vi : Value), i ≤ l0_0.length ∧ v61 = .int .i64 (i : Int) ∧ Aside0 (impl_SnapActs.goF k nm (l0_0.drop i) li = some r1) ∧ Aside0 (li.length ≤ 20002 + i) ∧ Aside0 (SSt w wr ga ((D, .deferred (some [])) :: FL) vi li)) (fun v61 _ => l0_0.length - (intOf v61).toNat)
   case atStart => exact ⟨0, _, _, Nat.zero_le _, rfl, by rw [List.drop_zero]; exact HGO, ⟨by have := HLEN.out; simp; omega⟩, ST2⟩
   case round =>
    clear ST2 hczd HGO
    obtain ⟨i, li, vi, hil, rfl, HGO, HLI, ST⟩ := hrel
    by_cases hlt : i < l0_0.length
    ·obtain ⟨⟨t1, t2⟩, hP, hQ⟩ := Option.bind_eq_some_iff.mp ((impl_SnapActs.goF_at hlt).symm.trans HGO.out)
     have HB := aM ST.out.below
     obtain ⟨ad, e, h0, h1, h2⟩ := at_T71 HR0_0.out (i : Int) (by omega) (by omega)
     cases e
     have hx : rd_T71 l0_0 (i : Int) = l0_0.getD i z71 := rfl
     rw [hx] at h0 h1 h2
     clear hx HGO
     generalize l0_0.getD i z71 = f at hP hQ h0 h1 h2
     obtain ⟨f0, f1, f2⟩ := f
     dsimp only at hP hQ h0 h1 h2
     have HP := aM hP
     have HQ := aM hQ
     clear hP hQ
     simp only [Int.toNat_natCast] at h0 h1 h2
     replace h0 := hxB HB h0; replace h1 := hxB HB h1; replace h2 := hxB HB h2
     have hcza := czA ST.out.box 0 vi
     have hlt' : (i : Int) < (l0_0.length : Int) := by omega
     have HLT := aM hlt
     have hl0 := HL0.out
     cases t2 with
     | false =>
      go_wp2_with (first | ((with_reducible refine gate_dst (N := 14) rfl ?_); refine bxE 14 #[.string (⟨#[]⟩ : ByteArray), .string (⟨#[]⟩ : ByteArray), .int .i64 0] 71 ?_; intro gf hg w33 hbox hb; have BF := aM (hbox); have GF : Aside0 (wr.heap.size ≤ gf) := ⟨by rw [hg]; exact Nat.le_refl _⟩; have HBF := aM hb; clear hb hbox hg; have hczf0 := czA BF.out 0 (.string (⟨#[]⟩ : ByteArray)); have hczf1 := czA BF.out 1 (.string (⟨#[]⟩ : ByteArray)); have hczf2 := czA BF.out 2 (.int .i64 0); have hfzf0 := blk_frozen BF.out 0; have hfzf1 := blk_frozen BF.out 1; have hfzf2 := blk_frozen BF.out 2) | ((with_reducible refine gate_callee (f := 37) rfl ?_); refine gL (some 68) Tryd.func37 #[.string f0] ?_; (with_reducible refine (impl_snapIndex.calls k f0 t1 false _ HP.out (Cx.on HTAB.out (below_step HB.out (uL HBF)))).mono ?_); rintro e w34 ⟨rfl, hb⟩; refine ⟨_, rfl, ?_⟩; replace BF := aM (blk_below (box_3 BF.out (.string f0) (.string f1) (.int .i64 f2)) hb); replace ST := aM (ST.out.call (below_step (uL HBF) hb)); clear hb hczf0 hczf1 hczf2 hfzf0 hfzf1 hfzf2 HBF HB; have hczf0 := czA BF.out 0 (.string f0); have hcza := czA ST.out.box 0 vi; have HSZ4 := aM (ST.out.below.size)))
      go_roundw
      case rel => exact ⟨i + 1, li, vi, by have := HLT.out; omega, by go_num, ⟨by have := HQ.out; simpa using this⟩, ⟨by have := HLI.out; omega⟩, ST⟩
      case measure => have := HLT.out; simp [intOf]; omega
     | true =>
      by_cases hne : f0.toList = nm.toList
      ·have q0 : (f0.toList == nm.toList) = true := beq_iff_eq.mpr hne
       have q1 : (f0.toList != nm.toList) = false := bne_eq_false_iff_eq.mpr hne
       replace HQ := aM (by have := HQ.out; rw [if_neg (fun h => h.2 hne)] at this; exact this)
       clear hne
       go_wp2_with (first | ((with_reducible refine gate_dst (N := 14) rfl ?_); refine bxE 14 #[.string (⟨#[]⟩ : ByteArray), .string (⟨#[]⟩ : ByteArray), .int .i64 0] 71 ?_; intro gf hg w33 hbox hb; have BF := aM (hbox); have GF : Aside0 (wr.heap.size ≤ gf) := ⟨by rw [hg]; exact Nat.le_refl _⟩; have HBF := aM hb; clear hb hbox hg; have hczf0 := czA BF.out 0 (.string (⟨#[]⟩ : ByteArray)); have hczf1 := czA BF.out 1 (.string (⟨#[]⟩ : ByteArray)); have hczf2 := czA BF.out 2 (.int .i64 0); have hfzf0 := blk_frozen BF.out 0; have hfzf1 := blk_frozen BF.out 1; have hfzf2 := blk_frozen BF.out 2) | ((with_reducible refine gate_callee (f := 37) rfl ?_); refine gL (some 68) Tryd.func37 #[.string f0] ?_; (with_reducible refine (impl_snapIndex.calls k f0 t1 true _ HP.out (Cx.on HTAB.out (below_step HB.out (uL HBF)))).mono ?_); rintro e w34 ⟨rfl, hb⟩; refine ⟨_, rfl, ?_⟩; replace BF := aM (blk_below (box_3 BF.out (.string f0) (.string f1) (.int .i64 f2)) hb); replace ST := aM (ST.out.call (below_step (uL HBF) hb)); clear hb hczf0 hczf1 hczf2 hfzf0 hfzf1 hfzf2 HBF HB; have hczf0 := czA BF.out 0 (.string f0); have hcza := czA ST.out.box 0 vi; have HSZ4 := aM (ST.out.below.size)))
       go_roundw
       case rel => exact ⟨i + 1, li, vi, by have := HLT.out; omega, by go_num, HQ, ⟨by have := HLI.out; omega⟩, ST⟩
       case measure => have := HLT.out; simp [intOf]; omega
      ·have q0 : (f0.toList == nm.toList) = false := beq_eq_false_iff_ne.mpr hne
       have q1 : (f0.toList != nm.toList) = true := bne_iff_ne.mpr hne
       replace HQ := aM (by have := HQ.out; rw [if_pos ⟨rfl, hne⟩] at this; exact this)
       clear hne
       go_wp2_with (first | ((with_reducible refine gate_dst (N := 14) rfl ?_); refine bxE 14 #[.string (⟨#[]⟩ : ByteArray), .string (⟨#[]⟩ : ByteArray), .int .i64 0] 71 ?_; intro gf hg w33 hbox hb; have BF := aM (hbox); have GF : Aside0 (wr.heap.size ≤ gf) := ⟨by rw [hg]; exact Nat.le_refl _⟩; have HBF := aM hb; clear hb hbox hg; have hczf0 := czA BF.out 0 (.string (⟨#[]⟩ : ByteArray)); have hczf1 := czA BF.out 1 (.string (⟨#[]⟩ : ByteArray)); have hczf2 := czA BF.out 2 (.int .i64 0); have hfzf0 := blk_frozen BF.out 0; have hfzf1 := blk_frozen BF.out 1; have hfzf2 := blk_frozen BF.out 2) | ((with_reducible refine gate_callee (f := 37) rfl ?_); refine gL (some 68) Tryd.func37 #[.string f0] ?_; (with_reducible refine (impl_snapIndex.calls k f0 t1 true _ HP.out (Cx.on HTAB.out (below_step HB.out (uL HBF)))).mono ?_); rintro e w34 ⟨rfl, hb⟩; refine ⟨_, rfl, ?_⟩; replace BF := aM (blk_below (box_3 BF.out (.string f0) (.string f1) (.int .i64 f2)) hb); replace ST := aM (ST.out.call (below_step (uL HBF) hb)); clear hb hczf0 hczf1 hczf2 hfzf0 hfzf1 hfzf2 HBF HB; have hczf0 := czA BF.out 0 (.string f0); have hcza := czA ST.out.box 0 vi; have HSZ4 := aM (ST.out.below.size)) | ((with_reducible refine gate_builtin (b := .append) (xs := #[.tmp 78, .tmp 82]) rfl ?_); at_builtin; refine wpList_append_own (w := _) rfl _ _ 30 rfl w.heap.size 60 i0 (.agg #[(.int .i64 0), (.string ⟨#[]⟩), (.string ⟨#[]⟩), (.string ⟨#[]⟩)]) 4 56 Tryd.underlying30 hi hz0 hz1 hz2 rfl (by decide) vi li.length (sflat li) rfl ((row_of_R (Kd.R_below (R_of_row ST.out.row) ((Below.refl _ _).alloc (Nat.le_refl _) _)))) ⟨w34.heap.size, 0, none⟩ 1 1 [.int .i64 4, .string f0, .string ⟨#[]⟩, .string ⟨#[]⟩] rfl rfl (four_new _ _ _ _ _ _) (by simp [Value.oneCell']) (by have := HLI.out; have := HL0.out; unfold maxLen; omega) (by have := HLI.out; have := HL0.out; omega) (by have := HSZ4.out; simp; omega) ?_; intro v2 w35 hown2 hgrow2 _; obtain ⟨g2, cap2, rfl⟩ := ownsRow_succ (k := li.length) hown2; obtain ⟨hv1, hst⟩ := ST.out.append (k := [⟨4, f0, ⟨#[]⟩, ⟨#[]⟩⟩]) FL2.out FA2.out GA.out hown2 hgrow2 (by simp) rfl; have ST2 := aM hst; have hc1 := hv1.cell; have hf1 := hv1.frozen; clear hst hgrow2 hown2 hcza))
       go_roundw
       case rel => exact ⟨i + 1, _, _, by have := HLT.out; omega, by go_num, HQ, ⟨by have := HLI.out; simp; omega⟩, ST2⟩
       case measure => have := HLT.out; simp [intOf]; omega
    ·obtain rfl : i = l0_0.length := by omega
     have hcza := czA ST.out.box 0 vi
     have hk : wr.heap[D]? = some (.deferred (some [])) := ST.out.frm (D, .deferred (some [])) (List.mem_cons_self ..)
     have HK := aM hk
     clear hk
     go_wp2
     obtain rfl : li = r1 := by have := HGO.out; rw [List.drop_length] at this; exact Option.some.inj this
     refine ⟨by simp, .inl ⟨_, _, rfl, run_takeDeferred HK.out, ?_⟩⟩
     exact ⟨.tuple #[vi, .bool true], by simp [results, Tryd.f10, go_sem], vi, rfl, R_of_row (ownsRow_putObj ST.out.row _ HK.out rfl), ST.out.below.trans (belowK_b (w := w) (Nat.le_refl _) wr D _ _ HDW.out HK.out rfl rfl)⟩
  case stop =>
   rintro D c pre W _ _ h _
   exact h.elim
end Main
theorem impl_SnapActs.calls (k : Nat) (A0_0 : Option Addr) (c0_0 : Nat) (l0_0 : List S71) (a1_0 : Int) (a1_1 : Int) (A1_2 : Option Addr) (c1_2 : Nat) (l1_2 : List Int) (a1_3 : ByteArray) (r1 : List S60) (r2 : Bool) (w : World) (hr0_0 : Kd.C k71 w A0_0 l0_0.length l0_0) (hc0_0 : l0_0.length ≤ c0_0) (hr1_2 : Kd.C (Kd.int .i64) w A1_2 l1_2.length l1_2) (hc1_2 : l1_2.length ≤ c1_2) (h : impl_SnapActs.f k l0_0 a1_0 a1_1 l1_2 a1_3 = some (r1, r2)) (htab : Cx.Ok w) :
 Calls Tryd.prog 10 #[.agg #[.slice A0_0 l0_0.length c0_0], .agg #[.int .i64 a1_0, .int .i64 a1_1, .slice A1_2 l1_2.length c1_2, .string a1_3]] w fun e w' => ∃ v0_ : Value, e = .returned (.tuple #[v0_, .bool r2]) ∧ Kd.R k60 60 w' w.heap.size (fun _ => True) v0_ r1 ∧ Below w.heap.size w w' := by
 unfold impl_SnapActs.f at h
 obtain ⟨⟨tx, ok⟩, h1, h⟩ := Option.bind_eq_some_iff.mp h
 dsimp only at h
 have hnil : ∀ W : World, Kd.R k60 60 W w.heap.size (fun _ => True) (.slice none 0 0) [] := fun W => R_of_row (l := []) (World.ownsRow_nil _ _ _ _)
 cases ok with
 | false =>
  rw [if_neg (by simp)] at h
  obtain ⟨rfl, rfl⟩ : [] = r1 ∧ false = r2 := by simpa using h
  exact (impl_SnapActs.no1 k A0_0 c0_0 l0_0 a1_0 a1_1 A1_2 c1_2 l1_2 a1_3 tx w hr0_0 hc0_0 hr1_2 hc1_2 h1).mono fun e w' ⟨he, hb⟩ => ⟨_, he, hnil _, hb⟩
 | true =>
  rw [if_pos rfl] at h
  obtain ⟨ok2, h2, h⟩ := Option.bind_eq_some_iff.mp h
  cases ok2 with
  | false =>
   rw [if_neg (by simp)] at h
   obtain ⟨rfl, rfl⟩ : [] = r1 ∧ false = r2 := by simpa using h
   exact (impl_SnapActs.no2 k A0_0 c0_0 l0_0 a1_0 a1_1 A1_2 c1_2 l1_2 a1_3 tx w hr0_0 hc0_0 hr1_2 hc1_2 h1 h2).mono fun e w' ⟨he, hb⟩ => ⟨_, he, hnil _, hb⟩
  | true =>
   rw [if_pos rfl] at h
   obtain ⟨⟨ft, has⟩, h3, h⟩ := Option.bind_eq_some_iff.mp h
   obtain ⟨nm, h4, h⟩ := Option.bind_eq_some_iff.mp h
   dsimp only at h
   by_cases hz : tx.size ≤ 1000000 ∧ l0_0.length ≤ 2000000
   ·rw [if_pos hz] at h
    obtain ⟨rr, h5, h⟩ := Option.bind_eq_some_iff.mp h
    obtain ⟨rfl, rfl⟩ : rr = r1 ∧ true = r2 := by simpa using h
    exact impl_SnapActs.yes k A0_0 c0_0 l0_0 a1_0 a1_1 A1_2 c1_2 l1_2 a1_3 tx w hr0_0 hc0_0 hr1_2 hc1_2 h1 h2 ft nm has h3 h4 hz.1 hz.2 rr h5 htab
   ·rw [if_neg hz] at h; cases h

/-! ### laws_eqAct: function 38 -/
def laws_eqAct.f (a0_0 : Int) (a0_1 : ByteArray) (a0_2 : ByteArray) (a0_3 : ByteArray) (a1_0 : Int) (a1_1 : ByteArray) (a1_2 : ByteArray) (a1_3 : ByteArray) : Option (Bool) := if a0_0 = a1_0 then (if a0_1.toList = a1_1.toList then (if a0_2.toList = a1_2.toList then (if a0_3.toList = a1_3.toList then (some true) else (some false)) else (some false)) else (some false)) else (some false)
set_option maxHeartbeats 8000000 in
set_option maxRecDepth 100000 in
theorem laws_eqAct.calls (a0_0 : Int) (a0_1 : ByteArray) (a0_2 : ByteArray) (a0_3 : ByteArray) (a1_0 : Int) (a1_1 : ByteArray) (a1_2 : ByteArray) (a1_3 : ByteArray) (r : Bool) (w : World) (h : laws_eqAct.f a0_0 a0_1 a0_2 a0_3 a1_0 a1_1 a1_2 a1_3 = some r) :
 Calls Tryd.prog 38 #[.agg #[.int .i64 a0_0, .string a0_1, .string a0_2, .string a0_3], .agg #[.int .i64 a1_0, .string a1_1, .string a1_2, .string a1_3]] w fun e w' => e = .returned (.bool r) ∧ Below w.heap.size w w' := by
 have hu60 := Tryd.underlying60
 have HB := aM (Below.refl w.heap.size w)
 have H : (if a0_0 = a1_0 then (if a0_1.toList = a1_1.toList then (if a0_2.toList = a1_2.toList then (if a0_3.toList = a1_3.toList then (some true) else (some false)) else (some false)) else (some false)) else (some false)) = some r := h
 clear h
 refine Classical.byCases (p := a0_0 = a1_0) (fun c3 => ?L1p) (fun c3 => ?L1n)
 case' L1p =>
  rw [if_pos c3] at H
  have c3b0 : (a0_0 == a1_0) = true := beq_iff_eq.mpr c3
  have c3b1 : (a0_0 != a1_0) = false := bne_eq_false_iff_eq.mpr c3
  clear c3
  refine Classical.byCases (p := a0_1.toList = a1_1.toList) (fun c4 => ?L2p) (fun c4 => ?L2n)
  case' L2p =>
   rw [if_pos c4] at H
   have c4b0 : (a0_1.toList == a1_1.toList) = true := beq_iff_eq.mpr c4
   have c4b1 : (a0_1.toList != a1_1.toList) = false := bne_eq_false_iff_eq.mpr c4
   clear c4
   refine Classical.byCases (p := a0_2.toList = a1_2.toList) (fun c5 => ?L3p) (fun c5 => ?L3n)
   case' L3p =>
    rw [if_pos c5] at H
    have c5b0 : (a0_2.toList == a1_2.toList) = true := beq_iff_eq.mpr c5
    have c5b1 : (a0_2.toList != a1_2.toList) = false := bne_eq_false_iff_eq.mpr c5
    clear c5
    refine Classical.byCases (p := a0_3.toList = a1_3.toList) (fun c6 => ?L4p) (fun c6 => ?L4n)
    case' L4p =>
     rw [if_pos c6] at H
     have c6b0 : (a0_3.toList == a1_3.toList) = true := beq_iff_eq.mpr c6
     have c6b1 : (a0_3.toList != a1_3.toList) = false := bne_eq_false_iff_eq.mpr c6
     clear c6
     obtain rfl := Option.some.inj H
    case' L4n =>
     rw [if_neg c6] at H
     have c6b0 : (a0_3.toList == a1_3.toList) = false := beq_eq_false_iff_ne.mpr c6
     have c6b1 : (a0_3.toList != a1_3.toList) = true := bne_iff_ne.mpr c6
     obtain rfl := Option.some.inj H
   case' L3n =>
    rw [if_neg c5] at H
    have c5b0 : (a0_2.toList == a1_2.toList) = false := beq_eq_false_iff_ne.mpr c5
    have c5b1 : (a0_2.toList != a1_2.toList) = true := bne_iff_ne.mpr c5
    obtain rfl := Option.some.inj H
  case' L2n =>
   rw [if_neg c4] at H
   have c4b0 : (a0_1.toList == a1_1.toList) = false := beq_eq_false_iff_ne.mpr c4
   have c4b1 : (a0_1.toList != a1_1.toList) = true := bne_iff_ne.mpr c4
   obtain rfl := Option.some.inj H
 case' L1n =>
  rw [if_neg c3] at H
  have c3b0 : (a0_0 == a1_0) = false := beq_eq_false_iff_ne.mpr c3
  have c3b1 : (a0_0 != a1_0) = true := bne_iff_ne.mpr c3
  obtain rfl := Option.some.inj H
 case L4p | L4n | L3n | L2n | L1n =>
  go_enter Tryd.func38, Tryd.ntmps38
  go_wp2_with (first | ((with_reducible refine gate_dst (N := 2) rfl ?_); refine bxE 2 #[.int .i64 a0_0, .string a0_1, .string a0_2, .string a0_3] 60 ?_; intro gb305 hg w7 hbox hb; have BK305 := aM (hbox); have GW305 := szG hg (uL HB); have GE305 := szG hg (uL HB); replace HB := aM (below_step (uL HB) hb); clear hb hbox hg) | ((with_reducible refine gate_dst (N := 3) rfl ?_); refine bxE 3 #[.int .i64 a1_0, .string a1_1, .string a1_2, .string a1_3] 60 ?_; intro gb306 hg w8 hbox hb; have BK306 := aM (hbox); have GW306 := szG hg (uL HB); have GE306 := szG hg (uL HB); have NB305_306 := neL hg BK305; have NB306_305 := neG hg BK305; replace BK305 := blkB BK305 hb; replace HB := aM (below_step (uL HB) hb); clear hb hbox hg; have hnb9 := NB305_306.out; have hnc9 := NB306_305.out; have hcz10_0 := czA BK305.out 0 (.int .i64 a0_0); have hcz10_1 := czA BK305.out 1 (.string a0_1); have hcz10_2 := czA BK305.out 2 (.string a0_2); have hcz10_3 := czA BK305.out 3 (.string a0_3); have hfz10_0 := blk_frozen BK305.out 0; have hfz10_1 := blk_frozen BK305.out 1; have hfz10_2 := blk_frozen BK305.out 2; have hfz10_3 := blk_frozen BK305.out 3; have hcz11_0 := czA BK306.out 0 (.int .i64 a1_0); have hcz11_1 := czA BK306.out 1 (.string a1_1); have hcz11_2 := czA BK306.out 2 (.string a1_2); have hcz11_3 := czA BK306.out 3 (.string a1_3); have hfz11_0 := blk_frozen BK306.out 0; have hfz11_1 := blk_frozen BK306.out 1; have hfz11_2 := blk_frozen BK306.out 2; have hfz11_3 := blk_frozen BK306.out 3))
  go_ret
  exact rX HB

end Go.Proofs.YthomiofokkkhgaaDoor.QFnExactSnapActs
