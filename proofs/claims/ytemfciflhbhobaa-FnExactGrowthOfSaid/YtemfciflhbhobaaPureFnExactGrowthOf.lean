/- GrowthOf answers as the reference's, in memory of its own: the plain law behind FnExactGrowthOf. No condition. -/
import Derived.Test.YtemfciflhbhobaaFLawsFnExactGrowthOf
import Derived.Test.YtemfciflhbhobaaOpenK
import Derived.Test.YtemfciflhbhobaaQGrow
import Derived.Test.YtemfciflhbhobaaQMarkS
import Derived.Test.YtemfciflhbhobaaQMarkD
namespace Go.Proofs.Ytemfciflhbhobaa.Pure
open Go.RowKit Go.Proofs.Ytemfciflhbhobaa.B Go.Proofs.Ytemfciflhbhobaa.Q Go.Proofs.YtemfciflhbhobaaW.PrintWords Go.Proofs.YtemfciflhbhobaaW.PrintLast
theorem FnExactGrowthOf_at (k : Nat) (hk : 2199023255552 < k) (l : List ByteArray) (i : Int) (hi : -9223372036854775808 ≤ i ∧ i ≤ 9223372036854775807) (h : l.length ≤ 9223372036854775807) (hs : ∀ s ∈ l, s.size ≤ 9223372036854775807) : laws_FnExactGrowthOf.f (k + 3) l i = some true := by
  unfold laws_FnExactGrowthOf.f
  obtain ⟨r, hr, hb⟩ := szStrs (k := k + 3) l 1048576 (by omega) h hs (by omega) (by omega)
  refine bs hr ?_
  by_cases h0 : r < 0
  · rw [if_pos h0]
  · have hl : l.length < 1099511627776 := by omega
    have hp : (growthOf l i).1.length ≤ 256 := growthOf_len hl i
    have ei : ∀ q, 2199023255552 < q → impl_GrowthOf.f q l i = some (growthOf l i) := fun q hq => impl_growthOf' (by omega) hl i
    have en : ((growthOf l i).2 != (growthOf l i).2) = false := bne_self_eq_false _
    rw [if_neg h0]
    refine bs (toStrs l (by omega) hl) (bs (spec_growthOf' (by omega) hl i) (bs (toStrs l (by omega) hl) (bs (ei _ (by omega)) (bs (eqDigs _ (by omega) (by omega)) ?_))))
    rw [if_pos rfl, en]
    simp only [laws_FnExactGrowthOf.j0]
    rw [if_neg (by simp)]
    refine bs (toStrs l (by omega) hl) (bs (eqStrs l (by omega) hl) ?_)
    rw [if_pos rfl]
    obtain ⟨r1, e1, n1⟩ := markStrs (k := k + 2) l (by omega) hl
    refine bs e1 ?_
    rw [if_neg n1]
    refine bs (eqDigs _ (by omega) (by omega)) ?_
    rw [if_pos rfl, en]
    simp only [laws_FnExactGrowthOf.j1]
    rw [if_neg (by simp)]
    obtain ⟨r2, e2, e3, e4, n2⟩ := markDigs2 (k := k) (growthOf l i).1 (by omega) (by omega)
    refine bs e2 (bs e3 ?_)
    rw [if_neg n2, if_pos rfl]
    refine bs (toStrs l (by omega) hl) (bs (ei _ (by omega)) (bs (eqDigs _ (by omega) (by omega)) ?_))
    rw [if_pos rfl, en]
    simp only [laws_FnExactGrowthOf.j2]
    rw [if_neg (by simp)]
    refine bs e4 ?_
    rw [if_neg n2, if_pos rfl]
theorem FnExactGrowthOf (y0 : List ByteArray) (y1 : Int) (h : y0.length ≤ 9223372036854775807 ∧ ∀ y_ ∈ y0, y_.size ≤ 9223372036854775807) (h1 : (Lit.int .i64 y1).wf = true) : ∃ k, laws_FnExactGrowthOf.f k y0 y1 = some true := ⟨2199023255553 + 3, FnExactGrowthOf_at _ (by omega) y0 y1 (bounds64 h1) h.1 h.2⟩
end Go.Proofs.Ytemfciflhbhobaa.Pure
