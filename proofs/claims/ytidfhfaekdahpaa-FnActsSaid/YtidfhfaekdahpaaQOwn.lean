import Derived.Test.YtidfhfaekdahpaaQShort
import Derived.Test.YtidfhfaekdahpaaWKept
/-! Words of this session's own: a store of a whole value into a block; what lies in blocks, cell by cell. -/
namespace Go.Proofs.Ytidfhfaekdahpaa
open Go.RowKit Go.Proofs.YtidfhfaekdahpaaW.PrintWords
set_option linter.unusedVariables false
section
variable {P : Program} {ops : Array Oper} {rest : List Oper} {o : Oper} {a : Act} {Q : Exit → Act → World → Prop}
/-- A store into a block that is known whole. -/
theorem store_blk {W : World} (hgd : o.guard = none) (hN : o.dst = none) (t : TypeId) (p x : Operand) (ho : o.op = .store t p x) {g off : Nat} {e : TypeId} {cur : Array Value} (u : Value) (seg : List Value)
    (hp : a.eval p = .pointer (some ⟨g, off, none⟩)) (hx : a.eval x = u) (hu : u.cells.toList = seg) (ht : (P.info? t).map (·.size) = some seg.length) (hh : W.heap[g]? = some (.cells cur e (0, 0))) (hfit : off + seg.length ≤ cur.size) (h1 : ∀ q ∈ seg, q.oneCell' = true)
    (h : ∀ w1 cur1, w1.heap[g]? = some (.cells cur1 e (0, 0)) → cur1.toList = cur.toList.take off ++ seg ++ cur.toList.drop (off + seg.length) → W.grownBy w1 (some g) → wpList P ops Q rest a w1) : wpList P ops Q (o :: rest) a W := by
  have hrun := run_store_run (P := P) t u seg hh hu ht hfit h1
  obtain ⟨cur', h3, h4, h5⟩ := setCells_row seg off W cur hh hfit
  obtain ⟨s1, s2, s3, s4⟩ := setCells_same g seg off W
  refine wpList_plain hgd fun K hK => ?_
  unfold Oper.wp execOp
  simp only [ho, hp, hx, Sem.run_bind, Sem.run_pure, Result.andThen_ok, hrun]
  show K (a.put o.dst undef) _
  rw [hN]
  exact hK a _ (h _ cur' h3 h5 ⟨s1, s2, s3, by rw [s4]; exact Nat.le_refl _, fun k _ hk => setCells_far seg off k (fun he => hk (by rw [he]))⟩)
end
/-! rows without rows of their own below: what is said of other blocks is said anew -/
namespace Kd
open Go.Proofs.YtidfhfaekdahpaaW.PrintWords.Kd
variable {α : Type} {d : Kd α} {e : TypeId} {w W W2 : World} {base : Nat} {ok ok1 S : Nat → Prop} {v : Value} {xs : List α}
end Kd
end Go.Proofs.Ytidfhfaekdahpaa
