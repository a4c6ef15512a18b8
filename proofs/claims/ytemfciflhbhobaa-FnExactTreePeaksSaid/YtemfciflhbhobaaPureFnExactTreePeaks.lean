/- TreePeaks answers as the reference's, in memory of its own: the plain law behind FnExactTreePeaks. No condition. -/
import Derived.Test.YtemfciflhbhobaaFLawsFnExactTreePeaks
import Derived.Test.YtemfciflhbhobaaOpenK
import Derived.Test.YtemfciflhbhobaaQRuns
import Derived.Test.YtemfciflhbhobaaQMarkS
import Derived.Test.YtemfciflhbhobaaQMarkD
namespace Go.Proofs.Ytemfciflhbhobaa.Pure
open Go.RowKit Go.Proofs.Ytemfciflhbhobaa.B Go.Proofs.Ytemfciflhbhobaa.Q Go.Proofs.YtemfciflhbhobaaW.PrintWords Go.Proofs.YtemfciflhbhobaaW.PrintLast
theorem treePeaks_at (k : Nat) (hk : 2199023255552 < k) (l : List ByteArray) (h : l.length ≤ 9223372036854775807) (hs : ∀ s ∈ l, s.size ≤ 9223372036854775807) : laws_FnExactTreePeaks.f (k + 1) l = some true := by
  unfold laws_FnExactTreePeaks.f
  obtain ⟨r, hr, hb⟩ := szStrs (k := k + 1) l 1048576 (by omega) h hs (by omega) (by omega)
  refine bs hr ?_
  by_cases h0 : r < 0
  · rw [if_pos h0]
  · have hl : l.length < 1099511627776 := by omega
    have hp := treePeaks_len l
    rw [if_neg h0]
    refine bs (toStrs l (by omega) hl) (bs (spec_treePeaks (by omega) hl) (bs (toStrs l (by omega) hl) (bs (impl_treePeaks (by omega) hl) (bs (eqDigs _ (by omega) (by omega)) ?_))))
    rw [if_pos rfl]
    refine bs (toStrs l (by omega) hl) (bs (eqStrs l (by omega) hl) ?_)
    rw [if_pos rfl]
    obtain ⟨r1, e1, n1⟩ := markStrs (k := k + 1) l (by omega) hl
    refine bs e1 ?_
    rw [if_neg n1]
    refine bs (eqDigs _ (by omega) (by omega)) ?_
    simp only [laws_FnExactTreePeaks.j0]
    rw [if_neg (by simp)]
    obtain ⟨r2, e2, e3, n2⟩ := markDigs (k := k) (treePeaks l) (by omega) (by omega)
    refine bs e2 (bs e3 ?_)
    rw [if_neg n2, if_pos rfl]
    refine bs (toStrs l (by omega) hl) (bs (impl_treePeaks (by omega) hl) (bs (eqDigs _ (by omega) (by omega)) ?_))
    rw [if_pos rfl]
    refine bs e3 ?_
    rw [if_neg n2, if_pos rfl]
theorem FnExactTreePeaks (y0 : List ByteArray) (h : y0.length ≤ 9223372036854775807 ∧ ∀ y_ ∈ y0, y_.size ≤ 9223372036854775807) : ∃ k, laws_FnExactTreePeaks.f k y0 = some true := ⟨2199023255553 + 1, treePeaks_at _ (by omega) y0 h.1 h.2⟩
end Go.Proofs.Ytemfciflhbhobaa.Pure
