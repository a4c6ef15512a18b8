/- PathOf answers as the reference's, in memory of its own: the plain law behind FnExactPathOf. No condition. -/
import Derived.Test.YtemfciflhbhobaaFLawsFnExactPathOf
import Derived.Test.YtemfciflhbhobaaOpenK
import Derived.Test.YtemfciflhbhobaaQPath
import Derived.Test.YtemfciflhbhobaaQMarkS
import Derived.Test.YtemfciflhbhobaaQMarkD
namespace Go.Proofs.Ytemfciflhbhobaa.Pure
open Go.RowKit Go.Proofs.Ytemfciflhbhobaa.B Go.Proofs.Ytemfciflhbhobaa.Q Go.Proofs.YtemfciflhbhobaaW.PrintWords Go.Proofs.YtemfciflhbhobaaW.PrintLast
set_option linter.unusedVariables false
set_option linter.unusedSimpArgs false
theorem FnExactPathOf_at (k : Nat) (hk : 2199023255552 < k) (l : List ByteArray) (i : Int) (hi : -9223372036854775808 ≤ i ∧ i ≤ 9223372036854775807) (h : l.length ≤ 9223372036854775807) (hs : ∀ s ∈ l, s.size ≤ 9223372036854775807) : laws_FnExactPathOf.f (k + 3) l i = some true := by
  unfold laws_FnExactPathOf.f
  obtain ⟨r, hr, hb⟩ := szStrs (k := k + 3) l 1048576 (by omega) h hs (by omega) (by omega)
  refine bs hr ?_
  by_cases h0 : r < 0
  · rw [if_pos h0]
  · have hl : l.length < 1099511627776 := by omega
    have hp : (pathOf l i).1.length ≤ 256 := pathOf_len i
    have ei : ∀ q, 2199023255552 < q → impl_PathOf.f q l i = some (pathOf l i) := fun q hq => impl_pathOf' (by omega) hl i hi.1
    have en : ((pathOf l i).2 != (pathOf l i).2) = false := bne_self_eq_false _
    rw [if_neg h0]
    refine bs (toStrs l (by omega) hl) (bs (spec_pathOf (by omega) hl i) (bs (toStrs l (by omega) hl) (bs (ei _ (by omega)) (bs (eqDigs _ (by omega) (by omega)) ?_))))
    rw [if_pos rfl, en]
    simp only [laws_FnExactPathOf.j0]
    rw [if_neg (by simp)]
    refine bs (toStrs l (by omega) hl) (bs (eqStrs l (by omega) hl) ?_)
    rw [if_pos rfl]
    obtain ⟨r1, e1, n1⟩ := markStrs (k := k + 2) l (by omega) hl
    refine bs e1 ?_
    rw [if_neg n1]
    refine bs (eqDigs _ (by omega) (by omega)) ?_
    rw [if_pos rfl, en]
    simp only [laws_FnExactPathOf.j1]
    rw [if_neg (by simp)]
    obtain ⟨r2, e2, e3, e4, n2⟩ := markDigs2 (k := k) (pathOf l i).1 (by omega) (by omega)
    refine bs e2 (bs e3 ?_)
    rw [if_neg n2, if_pos rfl]
    refine bs (toStrs l (by omega) hl) (bs (ei _ (by omega)) (bs (eqDigs _ (by omega) (by omega)) ?_))
    rw [if_pos rfl, en]
    simp only [laws_FnExactPathOf.j2]
    rw [if_neg (by simp)]
    refine bs e4 ?_
    rw [if_neg n2, if_pos rfl]
theorem FnExactPathOf (y0 : List ByteArray) (y1 : Int) (h : y0.length ≤ 9223372036854775807 ∧ ∀ y_ ∈ y0, y_.size ≤ 9223372036854775807) (h1 : (Lit.int .i64 y1).wf = true) : ∃ k, laws_FnExactPathOf.f k y0 y1 = some true := ⟨2199023255553 + 3, FnExactPathOf_at _ (by omega) y0 y1 (bounds64 h1) h.1 h.2⟩
end Go.Proofs.Ytemfciflhbhobaa.Pure
