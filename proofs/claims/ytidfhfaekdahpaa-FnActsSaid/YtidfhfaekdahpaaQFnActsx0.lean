-- Own work (wip/turnprint.py over the kit's print).
import Derived.Test.YtidfhfaekdahpaaProg
import Derived.Test.YtidfhfaekdahpaaQOwn
import Derived.Below
import Derived.Deep.Draws
import Derived.Deep.AppendLies
import Derived.Maps.AppendAt
import Derived.OwnWalk
import Derived.Laws.BytesArg
import Derived.Laws.MakeOwn
import Derived.Laws.OwnMore
import Derived.Deep.OwnRows
import Derived.Tactics
import Derived.Lib.ConvBytes
import Derived.Laws.Slices
import Derived.WalkKit
import Derived.KernelRfl
import Derived.RowKit3
import Derived.Deep.LoopGhost
import Derived.Deep.QuietTactic
import Derived.BigQuiet
import Derived.WideLaws
import Derived.Deep.DeepCutAuto
import Derived.Deep.CutBlock
import Derived.Deep.RegionHeld3
import Derived.Laws.Rows
import Derived.Lib.AppendStr
import Derived.ArgAppend
import Derived.Laws.IdiomCopy
import Derived.OrdersHeld
import Derived.Laws.BitsLemmas
import Derived.RowKit
import Derived.Test.YtidfhfaekdahpaaWWords
import Derived.Test.YtidfhfaekdahpaaWLast
import Derived.Test.YtidfhfaekdahpaaWTab
import Derived.Test.YtidfhfaekdahpaaWFour
import Derived.Test.YtidfhfaekdahpaaWQPut
import Derived.Test.YtidfhfaekdahpaaWApart
import Derived.Test.YtidfhfaekdahpaaWArr
import Derived.Test.YtidfhfaekdahpaaWZeros
import Derived.Test.YtidfhfaekdahpaaWFoot
import Derived.Test.YtidfhfaekdahpaaWKept
import Derived.Test.YtidfhfaekdahpaaWShare
import Derived.Test.YtidfhfaekdahpaaWN
import Derived.Test.YtidfhfaekdahpaaWFootNe
import Derived.Test.YtidfhfaekdahpaaWAt
import Derived.Test.YtidfhfaekdahpaaWEqStruct
import Derived.Test.YtidfhfaekdahpaaWRepsOne
import Derived.Test.YtidfhfaekdahpaaWInv
import Derived.Test.YtidfhfaekdahpaaWInvWords
import Derived.Test.YtidfhfaekdahpaaWGuard
import Derived.Test.YtidfhfaekdahpaaWNEv
import Derived.Test.YtidfhfaekdahpaaWMore
namespace Go.Proofs.Ytidfhfaekdahpaa.QFnActs
open Go.RowKit Go.Proofs.YtidfhfaekdahpaaW.PrintWords Go.Proofs.YtidfhfaekdahpaaW.PrintLast Go.Proofs.YtidfhfaekdahpaaW.PrintMore
attribute [local go_sem] max2_int min2_int max_two min_two max_three min_three max_four min_four   -- for this text's walks alone
set_option linter.unusedVariables false
set_option linter.unusedSimpArgs false



def errW : Option Int → Value
 | none => .nilIface
 | some c => .iface 0 (.int .i64 c)
theorem errW_none : errW none = .nilIface := rfl
theorem errW_some (c : Int) : errW (some c) = .iface 0 (.int .i64 c) := rfl

theorem info3 : (Try.prog.info? 3).map (fun i => (i.zero, i.size, i.bytes)) = some (some (.int .i64 0), 1, 8) := by kernel_rfl
theorem info5 : (Try.prog.info? 5).map (fun i => (i.zero, i.size, i.bytes)) = some (some (.int .u8 0), 1, 1) := by kernel_rfl
theorem info45 : (Try.prog.info? 45).map (fun i => (i.zero, i.size, i.bytes)) = some (some (.agg #[(.string ⟨#[]⟩), (.string ⟨#[]⟩), (.int .i64 0)]), 3, 40) := by kernel_rfl
theorem info55 : (Try.prog.info? 55).map (fun i => (i.zero, i.size, i.bytes)) = some (some (.agg #[(.int .i64 0), (.string ⟨#[]⟩), (.string ⟨#[]⟩), (.string ⟨#[]⟩)]), 4, 56) := by kernel_rfl
-- the values' own types
/-! #### struct type 45 -/
structure S45 where
 f0 : ByteArray
 f1 : ByteArray
 f2 : Int
def z45 : S45 := ⟨(⟨#[]⟩ : ByteArray), (⟨#[]⟩ : ByteArray), (0 : Int)⟩
def k45 : Kd S45 := Kd.iso (Kd.pair Kd.string (Kd.pair Kd.string (Kd.int .i64))) (fun x : S45 => (x.f0, x.f1, x.f2))
theorem k45_open {w : World} {x : S45} {cs : List Value} (h : k45.K w x cs) : cs = [.string x.f0, .string x.f1, .int .i64 x.f2] := by
 obtain ⟨_, _, rfl, rfl, ⟨_, _, rfl, rfl, rfl⟩⟩ := h
 exact rfl
theorem k45_openM {w : World} {base : Nat} {ok : Nat → Prop} {x : S45} {cs : List Value} (h : k45.M w base ok x cs) : cs = [.string x.f0, .string x.f1, .int .i64 x.f2] := by
 obtain ⟨_, _, rfl, rfl, ⟨_, _, rfl, rfl, rfl⟩⟩ := h
 exact rfl
theorem k45_mk (w : World) (x : S45)  : k45.K w x [.string x.f0, .string x.f1, .int .i64 x.f2] := ⟨[.string x.f0], [.string x.f1, .int .i64 x.f2], rfl, rfl, ⟨[.string x.f1], [.int .i64 x.f2], rfl, rfl, rfl⟩⟩
theorem k45_mkM (w : World) (base : Nat) (ok : Nat → Prop) (x : S45)  : k45.M w base ok x [.string x.f0, .string x.f1, .int .i64 x.f2] := ⟨[.string x.f0], [.string x.f1, .int .i64 x.f2], rfl, rfl, ⟨[.string x.f1], [.int .i64 x.f2], rfl, rfl, rfl⟩⟩
def rd_T45 (xs : List S45) (i : Int) : S45 := xs.getD i.toNat z45
theorem at_T45 {w : World} {A : Option Addr} {n : Nat} {xs : List S45} (h : Kd.C k45 w A n xs) (i : Int) (h0 : 0 ≤ i) (h1 : i < n) : ∃ ad , A = some ad ∧ w.cell? (ad.add (i.toNat * 3)) = some (.string (rd_T45 xs i).f0) ∧ w.cell? ⟨(ad.add (i.toNat * 3)).block, (ad.add (i.toNat * 3)).off + 1, none⟩ = some (.string (rd_T45 xs i).f1) ∧ w.cell? ⟨(ad.add (i.toNat * 3)).block, (ad.add (i.toNat * 3)).off + 2, none⟩ = some (.int .i64 (rd_T45 xs i).f2) := by
 obtain ⟨ad, c, e, _, hK, hc0⟩ := Kd.C_get h z45 i h0 h1
 have hc : ∀ j u, c[j]? = some u → w.cell? (ad.add (i.toNat * 3 + j)) = some u := hc0
 obtain rfl := k45_open hK
 exact ⟨ad, e, hc 0 _ rfl, by rw [← add_field _ _ 1 (by omega)]; exact hc 1 _ rfl, by rw [← add_field _ _ 2 (by omega)]; exact hc 2 _ rfl⟩

/-! #### struct type 55 -/
structure S55 where
 f0 : Int
 f1 : ByteArray
 f2 : ByteArray
 f3 : ByteArray
def z55 : S55 := ⟨(0 : Int), (⟨#[]⟩ : ByteArray), (⟨#[]⟩ : ByteArray), (⟨#[]⟩ : ByteArray)⟩
def k55 : Kd S55 := Kd.iso (Kd.pair (Kd.int .i64) (Kd.pair Kd.string (Kd.pair Kd.string Kd.string))) (fun x : S55 => (x.f0, x.f1, x.f2, x.f3))
theorem k55_open {w : World} {x : S55} {cs : List Value} (h : k55.K w x cs) : cs = [.int .i64 x.f0, .string x.f1, .string x.f2, .string x.f3] := by
 obtain ⟨_, _, rfl, rfl, ⟨_, _, rfl, rfl, ⟨_, _, rfl, rfl, rfl⟩⟩⟩ := h
 exact rfl
theorem k55_mkM (w : World) (base : Nat) (ok : Nat → Prop) (x : S55)  : k55.M w base ok x [.int .i64 x.f0, .string x.f1, .string x.f2, .string x.f3] := ⟨[.int .i64 x.f0], [.string x.f1, .string x.f2, .string x.f3], rfl, rfl, ⟨[.string x.f1], [.string x.f2, .string x.f3], rfl, rfl, ⟨[.string x.f2], [.string x.f3], rfl, rfl, rfl⟩⟩⟩
def rd_T55 (xs : List S55) (i : Int) : S55 := xs.getD i.toNat z55
theorem at_T55 {w : World} {A : Option Addr} {n : Nat} {xs : List S55} (h : Kd.C k55 w A n xs) (i : Int) (h0 : 0 ≤ i) (h1 : i < n) : ∃ ad , A = some ad ∧ w.cell? (ad.add (i.toNat * 4)) = some (.int .i64 (rd_T55 xs i).f0) ∧ w.cell? ⟨(ad.add (i.toNat * 4)).block, (ad.add (i.toNat * 4)).off + 1, none⟩ = some (.string (rd_T55 xs i).f1) ∧ w.cell? ⟨(ad.add (i.toNat * 4)).block, (ad.add (i.toNat * 4)).off + 2, none⟩ = some (.string (rd_T55 xs i).f2) ∧ w.cell? ⟨(ad.add (i.toNat * 4)).block, (ad.add (i.toNat * 4)).off + 3, none⟩ = some (.string (rd_T55 xs i).f3) := by
 obtain ⟨ad, c, e, _, hK, hc0⟩ := Kd.C_get h z55 i h0 h1
 have hc : ∀ j u, c[j]? = some u → w.cell? (ad.add (i.toNat * 4 + j)) = some u := hc0
 obtain rfl := k55_open hK
 exact ⟨ad, e, hc 0 _ rfl, by rw [← add_field _ _ 1 (by omega)]; exact hc 1 _ rfl, by rw [← add_field _ _ 2 (by omega)]; exact hc 2 _ rfl, by rw [← add_field _ _ 3 (by omega)]; exact hc 3 _ rfl⟩

theorem q0_ {p0 Q : Prop} (h0_ : Aside0 p0) (c : p0 → Q := by (intro h0_; repeat (first | (with_reducible first | exact h0_ | apply below_alloc | apply pw_below_drewN | apply below_drew1) | exact h0_))) : Q := c h0_.out
theorem q1_ {p0 Q : Prop} (h0_ : Aside0 p0) (c : p0 → Q := by (intro h0_; repeat (first | (with_reducible first | exact h0_ | apply KeepBut.set_ | apply keep_drewN | apply keep_drew | apply keep_alloc) | exact h0_))) : Q := c h0_.out
theorem q2_ {p0 Q : Prop} (h0_ : Aside0 p0) (c : p0 → Q := by (intro h0_; repeat (first | (with_reducible first | exact h0_ | apply IsS139.alloc | apply IsS139.drewN | apply IsS139.drew | apply IsS139.set_1 | apply IsS139.set_2) | exact h0_))) : Q := c h0_.out
theorem q3_ {p0 p1 Q : Prop} (h0_ : Aside0 p0) (h1_ : Aside0 p1) (c : p0 → p1 → Q := by (intro h0_ h1_; repeat (first | (with_reducible first | exact h0_ | apply lA | apply lN | apply lD | refine lS ?_ (IsS139.ge h1_)) | exact h0_))) : Q := c h0_.out h1_.out
theorem q4_ {p0 p1 Q : Prop} (h0_ : Aside0 p0) (h1_ : Aside0 p1) (c : p0 → p1 → Q := by (intro h0_ h1_; repeat (first | (with_reducible first | exact h0_ | apply KeepBut.set_ | apply keep_drewN | apply keep_drew | apply keep_alloc | refine keep_far ?_ h1_ _) | exact h0_))) : Q := c h0_.out h1_.out
theorem q5_ {p0 p1 Q : Prop} (h0_ : Aside0 p0) (h1_ : Aside0 p1) (c : p0 → p1 → Q := by (intro h0_ h1_; repeat (first | (with_reducible first | exact h0_ | apply IsS139.alloc | apply IsS139.drewN | apply IsS139.drew | apply IsS139.set_1 | apply IsS139.set_2 | refine IsS139.far ?_ h1_ _) | exact h0_))) : Q := c h0_.out h1_.out
theorem q6_ {p0 p1 p2 Q : Prop} (h0_ : Aside0 p0) (h1_ : Aside0 p1) (h2_ : Aside0 p2) (c : p0 → p1 → p2 → Q := by (intro h0_ h1_ h2_; repeat (first | (with_reducible first | exact h0_ | apply lA | apply lN | apply lD | refine lS ?_ (IsS139.ge h1_) | refine lS ?_ h2_) | exact h0_))) : Q := c h0_.out h1_.out h2_.out
theorem q7_ {p0 p1 p2 Q : Prop} (h0_ : Aside0 p0) (h1_ : Aside0 p1) (h2_ : Aside0 p2) (c : p0 → p1 → p2 → Q := by (intro h0_ h1_ h2_; repeat (first | (with_reducible first | exact h0_ | apply IsS139.alloc | apply IsS139.drewN | apply IsS139.drew | apply IsS139.set_1 | apply IsS139.set_2 | refine IsS139.far ?_ h1_ _ | refine IsS139.far ?_ h2_ _) | exact h0_))) : Q := c h0_.out h1_.out h2_.out
theorem q8_ {p0 p1 p2 Q : Prop} (h0_ : Aside0 p0) (h1_ : Aside0 p1) (h2_ : Aside0 p2) (c : p0 → p1 → p2 → Q := by (intro h0_ h1_ h2_; repeat (first | (with_reducible first | exact h0_ | apply KeepBut.set_ | apply keep_drewN | apply keep_drew | apply keep_alloc | refine keep_far ?_ h1_ _ | refine keep_far ?_ h2_ _) | exact h0_))) : Q := c h0_.out h1_.out h2_.out
theorem q9_ {p0 p1 p2 p3 Q : Prop} (h0_ : Aside0 p0) (h1_ : Aside0 p1) (h2_ : Aside0 p2) (h3_ : Aside0 p3) (c : p0 → p1 → p2 → p3 → Q := by (intro h0_ h1_ h2_ h3_; repeat (first | (with_reducible first | exact h0_ | apply lA | apply lN | apply lD | refine lS ?_ (IsS139.ge h1_) | refine lS ?_ h2_ | refine lS ?_ h3_) | exact h0_))) : Q := c h0_.out h1_.out h2_.out h3_.out
theorem q10_ {p0 p1 p2 p3 Q : Prop} (h0_ : Aside0 p0) (h1_ : Aside0 p1) (h2_ : Aside0 p2) (h3_ : Aside0 p3) (c : p0 → p1 → p2 → p3 → Q := by (intro h0_ h1_ h2_ h3_; repeat (first | (with_reducible first | exact h0_ | apply IsS139.alloc | apply IsS139.drewN | apply IsS139.drew | apply IsS139.set_1 | apply IsS139.set_2 | refine IsS139.far ?_ h1_ _ | refine IsS139.far ?_ h2_ _ | refine IsS139.far ?_ h3_ _) | exact h0_))) : Q := c h0_.out h1_.out h2_.out h3_.out
theorem q11_ {p0 p1 p2 p3 Q : Prop} (h0_ : Aside0 p0) (h1_ : Aside0 p1) (h2_ : Aside0 p2) (h3_ : Aside0 p3) (c : p0 → p1 → p2 → p3 → Q := by (intro h0_ h1_ h2_ h3_; repeat (first | (with_reducible first | exact h0_ | apply KeepBut.set_ | apply keep_drewN | apply keep_drew | apply keep_alloc | refine keep_far ?_ h1_ _ | refine keep_far ?_ h2_ _ | refine keep_far ?_ h3_ _) | exact h0_))) : Q := c h0_.out h1_.out h2_.out h3_.out
theorem q12_ {p0 p1 p2 p3 p4 p5 Q : Prop} (h0_ : Aside0 p0) (h1_ : Aside0 p1) (h2_ : Aside0 p2) (h3_ : Aside0 p3) (h4_ : Aside0 p4) (h5_ : Aside0 p5) (c : p0 → p1 → p2 → p3 → p4 → p5 → Q := by (intro h0_ h1_ h2_ h3_ h4_ h5_; repeat (first | (with_reducible first | exact h0_ | apply lA | apply lN | apply lD | refine lS ?_ (Nat.le_trans h1_ h2_) | refine lS ?_ (IsS139.ge h3_) | refine lS ?_ h4_ | refine lS ?_ h5_) | exact h0_))) : Q := c h0_.out h1_.out h2_.out h3_.out h4_.out h5_.out
theorem q13_ {p0 Q : Prop} (h0_ : Aside0 p0) (c : p0 → Q := by (intro h0_; repeat (first | (with_reducible first | exact h0_ | apply lA | apply lN | apply lD) | exact h0_))) : Q := c h0_.out
theorem q14_ {p0 p1 Q : Prop} (h0_ : Aside0 p0) (h1_ : Aside0 p1) (c : p0 → p1 → Q := by (intro h0_ h1_; repeat (first | (with_reducible first | exact h0_ | apply lA | apply lN | apply lD | refine lS ?_ h1_) | exact h0_))) : Q := c h0_.out h1_.out
theorem q15_ {p0 p1 p2 p3 p4 Q : Prop} (h0_ : Aside0 p0) (h1_ : Aside0 p1) (h2_ : Aside0 p2) (h3_ : Aside0 p3) (h4_ : Aside0 p4) (c : p0 → p1 → p2 → p3 → p4 → Q := by (intro h0_ h1_ h2_ h3_ h4_; repeat (first | (with_reducible first | exact h0_ | apply lA | apply lN | apply lD | refine lS ?_ (IsS139.ge h1_) | refine lS ?_ h2_ | refine lS ?_ h3_ | refine lS ?_ h4_) | exact h0_))) : Q := c h0_.out h1_.out h2_.out h3_.out h4_.out
end Go.Proofs.Ytidfhfaekdahpaa.QFnActs
