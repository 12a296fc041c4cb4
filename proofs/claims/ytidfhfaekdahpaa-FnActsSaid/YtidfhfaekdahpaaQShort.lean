import Derived.Test.YtidfhfaekdahpaaQWords
import Derived.Test.YtidfhfaekdahpaaWLast
import Derived.Test.YtidfhfaekdahpaaWTab
import Derived.Lib.SliceRun
import Derived.WalkSpells
import Derived.Lib.Overlaps
import Derived.Laws.CopyOwn
import Derived.Laws.CopyRow
import Derived.StillTailTactics
import Derived.BigRegion
import Derived.Lib.AppendZerosOnto
/-! Short names of words that stand in a long walk hundreds of times. -/
namespace Go.Proofs.Ytidfhfaekdahpaa
open Go.RowKit Go.Proofs.YtidfhfaekdahpaaW.PrintWords
/-! short names for words of the kit that stand in a long walk hundreds of times -/
theorem bN {w : World} {g : Nat} {o : Obj} (h : w.heap[g]? = some o) (n : Nat) : (w.drewN n).heap[g]? = some o := blk_drewN h n
theorem bD {w : World} {g : Nat} {o : Obj} (h : w.heap[g]? = some o) : w.drew.heap[g]? = some o := blk_drew h
theorem bA {w : World} {g : Nat} {o : Obj} (h : w.heap[g]? = some o) (o' : Obj) : (w.alloc o').heap[g]? = some o := blk_alloc h o'
theorem lA {w W : World} (h : Below w.heap.size w W) (o : Obj) : Below w.heap.size w (W.alloc o) := below_alloc h o
theorem lN {B : Nat} {w W : World} (h : Below B w W) (n : Nat) : Below B w (W.drewN n) := pw_below_drewN h n
theorem lD {base : Nat} {w W : World} (h : Below base w W) : Below base w W.drew := below_drew1 h
theorem lS {w W : World} {g j : Nat} {v : Value} (h : Below w.heap.size w W) (hg : w.heap.size ≤ g) : Below w.heap.size w (W.setCell ⟨g, j, none⟩ v) := below_set h hg
theorem aM {p : Prop} (h : p) : Aside0 p := ⟨h⟩
theorem mT {α β : Type} {f : α → β} {l : List α} : l.toArray.map f = (l.map f).toArray := List.map_toArray
theorem mC {α β : Type} {f : α → β} {a : α} {l : List α} : List.map f (a :: l) = f a :: List.map f l := List.map_cons
theorem mN {α β : Type} {f : α → β} : List.map f [] = [] := List.map_nil
theorem lDr {α : Type} {i : Nat} {l : List α} : (l.drop i).length = l.length - i := List.length_drop
theorem lTk {α : Type} {i : Nat} {l : List α} : (l.take i).length = min i l.length := List.length_take
theorem aP (a : Act) (d : Tmp) (v : Value) : a.put (some d) v = { a with tmps := a.tmps.setIfInBounds d v } := rfl
theorem aQ (a : Act) (v : Value) : a.put none v = a := rfl
theorem sT {α : Type} {l : List α} {i : Nat} {a : α} : l.toArray.setIfInBounds i a = (l.set i a).toArray := List.setIfInBounds_toArray l i a
theorem sZ {α : Type} {x : α} {xs : List α} {a : α} : (x :: xs).set 0 a = a :: xs := List.set_cons_zero
theorem sU {α : Type} {x : α} {xs : List α} {n : Nat} {a : α} : (x :: xs).set (n + 1) a = x :: xs.set n a := List.set_cons_succ
section
variable {α : Type} {d : Kd α} {e : Nat} {w : World} {base : Nat} {ok : Nat → Prop} {v : Value} {xs : List α}
theorem rA (h : d.R e w base ok v xs) (o : Obj) : d.R e (w.alloc o) base ok v xs := Kd.R_alloc h o
theorem rD (h : d.R e w base ok v xs) : d.R e w.drew base ok v xs := Kd.R_drew h
theorem rN (h : d.R e w base ok v xs) (m : Nat) : d.R e (w.drewN m) base ok v xs := Kd.R_drewN h m
theorem cA {A : Option Addr} {n : Nat} (h : d.C w A n xs) (o : Obj) : d.C (w.alloc o) A n xs := Kd.C_alloc h o
theorem cD {A : Option Addr} {n : Nat} (h : d.C w A n xs) : d.C w.drew A n xs := Kd.C_drew h
theorem cN {A : Option Addr} {n : Nat} (h : d.C w A n xs) (m : Nat) : d.C (w.drewN m) A n xs := Kd.C_drewN h m
end
theorem emp_ne (l : List UInt8) : l.isEmpty = !(l != []) := by cases l <;> rfl
/-! facts carried through what draws and lays: the steps are tried where the fact is used -/
theorem uR {P Q : Prop} (h : Aside0 P) (c : P → Q := by (intro h_; (with_reducible repeat first | apply rA | apply rN | apply rD); exact h_)) : Q := c h.out
theorem uB {P Q : Prop} (h : Aside0 P) (c : P → Q := by (intro h_; (with_reducible repeat first | apply bN | apply bD | apply bA); exact h_)) : Q := c h.out
theorem uL {P Q : Prop} (h : Aside0 P) (c : P → Q := by (intro h_; repeat (first | (with_reducible first | exact h_ | apply lA | apply lN | apply lD | refine lS ?_ (Aside0.out (by assumption))) | exact h_))) : Q := c h.out
theorem blkB {w W w2 : World} {g : Nat} {o : Obj} (h : Aside0 (w.heap[g]? = some o)) (hb : Below W.heap.size W w2) (c : w.heap[g]? = some o → W.heap[g]? = some o := by (intro h_; (with_reducible repeat first | apply bN | apply bD | apply bA | refine blk_far ?_ (Aside0.out (by assumption)) _); exact h_)) : Aside0 (w2.heap[g]? = some o) := ⟨blk_below (c h.out) hb⟩
theorem czA {w : World} {g : Nat} {t : TypeId} {cs : Array Value} (h : w.heap[g]? = some (.cells cs t (0, 0))) (i : Nat) (v : Value) (hv : cs[i]? = some v := by rfl) : w.cell? ⟨g, i, none⟩ = some v := (blk_cell h i).trans hv
theorem neL {w W : World} {g g' : Nat} {o : Obj} (hg : g' = W.heap.size) (h : Aside0 (w.heap[g]? = some o)) (c : w.heap[g]? = some o → W.heap[g]? = some o := by (intro h_; (with_reducible repeat first | apply bN | apply bD | apply bA); exact h_)) : Aside0 (g ≠ g') := ⟨by rw [hg]; exact Nat.ne_of_lt (blk_lt (c h.out))⟩
theorem neG {w W : World} {g g' : Nat} {o : Obj} (hg : g' = W.heap.size) (h : Aside0 (w.heap[g]? = some o)) (c : w.heap[g]? = some o → W.heap[g]? = some o := by (intro h_; (with_reducible repeat first | apply bN | apply bD | apply bA); exact h_)) : Aside0 (g' ≠ g) := ⟨by rw [hg]; exact Nat.ne_of_gt (blk_lt (c h.out))⟩
theorem hxB {w W : World} {p : Addr} {v : Value} (hb : Aside0 (Below w.heap.size w W)) (h : w.cell? p = some v) : W.cell? p = some v := (hb.out.cell (World.block_lt_of_cell? w _ h)).trans h
theorem hyB {w W W2 : World} {p : Addr} {v : Value} (hb : Aside0 (Below w.heap.size w W)) (h : w.cell? p = some v) (c : W.cell? p = some v → W2.cell? p = some v := by exact id) : W2.cell? p = some v := c ((hb.out.cell (World.block_lt_of_cell? w _ h)).trans h)
theorem rX {P Q : Prop} {a b : Ending} (hb : Aside0 P) (h : a = b := by first | rfl | (simp [errW_none, errW_some] <;> rfl) | (simp [*, errW_none, errW_some] <;> rfl)) (c : P → Q := by (intro h_; repeat (first | (with_reducible first | exact h_ | apply lA | apply lN | apply lD | refine lS ?_ (Aside0.out (by assumption))) | exact h_))) : a = b ∧ Q := ⟨h, c hb.out⟩
theorem nB {P Q : Prop} (h : P) (c : P → Q := by (intro h_; (with_reducible repeat first | apply bN | apply bD | apply bA); exact h_)) : Q := c h
theorem uC {α : Type} {d : Kd α} {A : Option Addr} {n : Nat} {xs : List α} {w W W2 : World} (h : Aside0 (d.C w A n xs)) (hb : Aside0 (Below w.heap.size w W)) (c : d.C W A n xs → d.C W2 A n xs := by (intro h_; repeat (first | exact h_ | (with_reducible refine cA ?_ _) | (with_reducible refine cN ?_ _) | (with_reducible refine cD ?_)))) : d.C W2 A n xs := c (Kd.C_below h.out hb.out)
theorem szG {w W : World} {g' : Nat} (hg : g' = W.heap.size) (h : Below w.heap.size w W) : Aside0 (w.heap.size ≤ g') := ⟨by rw [hg]; exact below_size h⟩
section
variable {P : Program} {ops : Array Oper} {rest : List Oper} {o : Oper} {a : Act} {Q : Exit → Act → World → Prop}
theorem gate_callee {f : FuncId} {zs : Array Operand} {ts : Array TypeId} {W : World} (_ho : o.op = .call { callee := .value (.func f), args := zs, argTypes := ts }) (h : wpList P ops Q (o :: rest) a W) : wpList P ops Q (o :: rest) a W := h
theorem gate_builtin {b : Builtin} {xs : Array Operand} {ts : Array TypeId} {W : World} (_ho : o.op = .call { callee := .builtin b, args := xs, argTypes := ts }) (h : wpList P ops Q (o :: rest) a W) : wpList P ops Q (o :: rest) a W := h
theorem bxE {W : World} (N : Tmp) (cs : Array Value) (t : TypeId) (h : ∀ g, g = W.heap.size → ∀ w1, w1.heap[g]? = some (.cells cs t (0, 0)) → Below W.heap.size W w1 → wpList P ops Q rest (a.put o.dst (.pointer (some ⟨g, 0, none⟩))) w1)
    (hd : o.dst = some N := by rfl) (hgd : o.guard = none := by rfl) (hrun : (execOp a.eval o).run P W = .ok (.value (.pointer (some ⟨W.heap.size, 0, none⟩))) (W.alloc (.cells cs t (0, 0))) := by first | (go_simp; done) | (go_simp; rfl)) : wpList P ops Q (o :: rest) a W := box_event hgd hd hrun h
theorem bxS {W : World} {Kc : Act → World → Prop} (N : Tmp) (cs : Array Value) (t : TypeId) (h : ∀ g, g = W.heap.size → ∀ w1, w1.heap[g]? = some (.cells cs t (0, 0)) → Below W.heap.size W w1 → Kc (a.put o.dst (.pointer (some ⟨g, 0, none⟩))) w1)
    (hd : o.dst = some N := by rfl) (hw : Region.wanted o (yielded ops a.tmps) = true := by rfl) (hrun : (execOp a.eval o).run P W = .ok (.value (.pointer (some ⟨W.heap.size, 0, none⟩))) (W.alloc (.cells cs t (0, 0))) := by first | (go_simp; done) | (go_simp; rfl)) : if Region.wanted o (yielded ops a.tmps) = true then Oper.wp P o a W Kc Q else Kc (a.put o.dst undef) W := box_step hw hd hrun h
end
/-! a region's steps: what is wanted of each is tried where it stands; which operations have come up is told by the bits of a number -/
def bL : Nat → Nat → List Bool
  | 0, _ => []
  | n + 1, m => (m % 2 == 1) :: bL n (m / 2)
def bB (n m : Nat) : Array Bool := (bL n m).toArray
section
open Go.Proofs.YtidfhfaekdahpaaW.PrintLast
variable {P : Program} {ops : Array Oper} {Q : Exit → Act → World → Prop} {md : Region.Mode} {S : World → Prop} {ds : List Nat} {oi : Oper} {v : Value} {fuel : Nat} {l : Array Bool} {a a' : Act} {w : World}
theorem pX (i : Nat) (N : Tmp) (l' : Array Bool) (hc : anyB md ops l l' i = true) (h : wpAnyLast P md ops Q S ds fuel l' a' w) (hi : ops[i]? = some oi := by rfl) (hN : oi.dst = some N := by rfl) (hQ : ∀ c a w, Q (.panic c) (a.put oi.dst v) w → Q (.panic c) a w := by exact fun _ _ _ h => h)
    (hg : Region.wanted oi (yielded ops a.tmps) = true := by rfl) (hy : ∀ w, (execOp a.eval oi).run P w = .ok (.value v) w := by (intro w'; go_simp; with_reducible rfl)) (ha : a.put (some N) v = a' := by (simp only [aP, aQ, sT, sZ, sU, i64_w, i32_w]; rfl)) : wpAnyLast P md ops Q S ds (fuel + 1) l a w :=
  pure_ l' hi hN hc hQ (Or.inl ⟨hg, hy⟩) ha h
theorem pA {T : Bool × List (List Nat × List Nat)} (hT : rtab md ops = T) (i : Nat) (N : Tmp) (n m : Nat) (h : wpAnyLast P md ops Q S ds fuel (bB n m) a' w) (hc : anyT T l.toList (bB n m).toList i = true := by kernel_rfl) (hi : ops[i]? = some oi := by rfl) (hN : oi.dst = some N := by rfl) (hQ : ∀ c a w, Q (.panic c) (a.put oi.dst v) w → Q (.panic c) a w := by exact fun _ _ _ h => h)
    (hg : Region.wanted oi (yielded ops a.tmps) = true := by rfl) (hy : ∀ w, (execOp a.eval oi).run P w = .ok (.value v) w := by (intro w'; go_simp; with_reducible rfl)) (ha : a.put (some N) v = a' := by (simp only [aP, aQ, sT, sZ, sU, i64_w, i32_w]; rfl)) : wpAnyLast P md ops Q S ds (fuel + 1) l a w :=
  pure_ (bB n m) hi hN (any_of hT hc) hQ (Or.inl ⟨hg, hy⟩) ha h
theorem pB {T : Bool × List (List Nat × List Nat)} (hT : rtab md ops = T) (i : Nat) (N : Tmp) (n m : Nat) (h : wpAnyLast P md ops Q S ds fuel (bB n m) a' w) (hc : anyT T l.toList (bB n m).toList i = true := by kernel_rfl) (hi : ops[i]? = some oi := by rfl) (hN : oi.dst = some N := by rfl) (hQ : ∀ c a w, Q (.panic c) (a.put oi.dst undef) w → Q (.panic c) a w := by exact fun _ _ _ h => h)
    (hg : Region.wanted oi (yielded ops a.tmps) = false := by rfl) (ha : a.put (some N) undef = a' := by (simp only [aP, aQ, sT, sZ, sU, i64_w, i32_w]; rfl)) : wpAnyLast P md ops Q S ds (fuel + 1) l a w :=
  pure_ (bB n m) hi hN (any_of hT hc) hQ (Or.inr ⟨hg, rfl⟩) ha h
theorem tA {T : Bool × List (List Nat × List Nat)} {B : List Nat} (hT : rtab md ops = T) (hB : waitsOk T.2 B = true) (i : Nat) (N : Tmp) (n m : Nat) (hS : S w) (h : wpAnyLast P md ops Q S ds fuel (bB n m) a' w) (hc : takeW T B ds l.toList (bB n m).toList i = true := by kernel_rfl) (hi : ops[i]? = some oi := by rfl) (hN : oi.dst = some N := by rfl) (hQ : ∀ c a w, Q (.panic c) (a.put oi.dst v) w → Q (.panic c) a w := by exact fun _ _ _ h => h)
    (hg : Region.wanted oi (yielded ops a.tmps) = true := by rfl) (hy : ∀ w, S w → (execOp a.eval oi).run P w = .ok (.value v) w := by (intro w' hS_; (try dsimp only at hS_); (repeat (obtain ⟨h_, hS_⟩ := hS_)); go_simp; with_reducible rfl)) (ha : a.put (some N) v = a' := by (simp only [aP, aQ, sT, sZ, sU, i64_w, i32_w]; rfl)) : wpAnyLast P md ops Q S ds (fuel + 1) l a w :=
  take_ (bB n m) hi hN (take_ofW hT hB hc) hQ (Or.inl ⟨hg, hy⟩) hS ha h
theorem oA {T : Bool × List (List Nat × List Nat)} (hT : rtab md ops = T) (i : Nat) (N : Option Tmp) (n m : Nat)
    (h : ∀ K : Act → World → Prop, Shut (∀ a' w', S w' → (S w' → wpAnyLast P md ops Q S ds fuel (bB n m) a' w') → K a' w') → if Region.wanted oi (yielded ops a.tmps) = true then Oper.wp P oi a w K Q else K (a.put N undef) w)
    (hc : (readyT T.2 l.toList == [i] && l.toList.set i true == (bB n m).toList) = true := by kernel_rfl) (hi : ops[i]? = some oi := by rfl) (hN : oi.dst = N := by rfl) (hd : i ∉ ds := by decide) : wpAnyLast P md ops Q S ds (fuel + 1) l a w :=
  one_ (bB n m) hi hN (one_of hT hc) hd h
theorem nX (N : Tmp) (h : wpAnyLast P md ops Q S ds fuel l a' w) (ha : Act.put a (some N) v = a' := by (simp only [aP, aQ, sT, sZ, sU, i64_w, i32_w]; rfl)) : wpAnyLast P md ops Q S ds fuel l (Act.put a (some N) v) w := norm_ ha h
theorem gX {K : Act → World → Prop} {N : Option Tmp} {f : FuncId} {fn : Func} {zs : Array Operand} {ts : Array TypeId} (hf : P.funcs[f]? = some fn) (args : Array Value) (h : Calls P f args w fun e w' => ∃ v, e = .returned v ∧ K (a.put N v) w')
    (hN : oi.dst = N := by rfl) (hop : oi.op = .call { callee := .value (.func f), args := zs, argTypes := ts } := by rfl) (hw : Region.wanted oi (yielded ops a.tmps) = true := by rfl) (hname : (fn.name == "runtime.NumGoroutine") = false := by kernel_rfl) (hb : fn.body.isSome = true := by rfl) (hargs : zs.map a.eval = args := by ((try simp only [mT, mC, mN]); first | done | rfl | (simp only [lDr, lTk]; rfl))) : if Region.wanted oi (yielded ops a.tmps) = true then Oper.wp P oi a w K Q else K (a.put N undef) w :=
  goes_ hf hname hb args hw hN hop hargs h
theorem gL {rest : List Oper} (N : Option Tmp) {f : FuncId} {fn : Func} {zs : Array Operand} {ts : Array TypeId} (hf : P.funcs[f]? = some fn) (args : Array Value) (h : Calls P f args w fun e w' => ∃ v, e = .returned v ∧ wpList P ops Q rest (a.put N v) w')
    (hd : oi.dst = N := by rfl) (hg : oi.guard = none := by rfl) (hop : oi.op = .call { callee := .value (.func f), args := zs, argTypes := ts } := by rfl) (hname : (fn.name == "runtime.NumGoroutine") = false := by kernel_rfl) (hb : fn.body.isSome = true := by rfl) (hargs : zs.map a.eval = args := by ((try simp only [mT, mC, mN]); first | done | rfl | (simp only [lDr, lTk]; rfl))) : wpList P ops Q (oi :: rest) a w :=
  goesL_ N hd hg hf hname hb args hop hargs h
end
end Go.Proofs.Ytidfhfaekdahpaa
