/- TreePoint answers as the reference's: the plain law behind FnExactTreePoint. No condition. -/
import Derived.Test.YtemfciflhbhobaaFLawsFnExactTreePoint
import Derived.Test.YtemfciflhbhobaaOpenK
import Derived.Test.YtemfciflhbhobaaQTree
import Derived.Test.YtemfciflhbhobaaQLeaves
namespace Go.Proofs.Ytemfciflhbhobaa.Pure
open Go.RowKit Go.Proofs.Ytemfciflhbhobaa.B Go.Proofs.Ytemfciflhbhobaa.Q Go.Proofs.YtemfciflhbhobaaW.PrintWords Go.Proofs.YtemfciflhbhobaaW.PrintLast
theorem leaves_are2 {l : List ByteArray} (c : leavesOk l = true) : l.length ≤ 256 ∧ ∀ s ∈ l, s.size ≤ 4611686018427387904 := by
  simp only [leavesOk, Bool.and_eq_true, decide_eq_true_eq, List.all_eq_true] at c
  exact ⟨c.1, fun s hs => Nat.le_trans (c.2 s hs) (by omega)⟩
theorem point_is {k : Nat} (hk : 1099511627776 < k) {l : List ByteArray} (h : l.length < 1099511627776) : ∃ r : Int × D4, spec_TreePoint.f k l = some r ∧ impl_TreePoint.f k l = some r := by
  unfold spec_TreePoint.f impl_TreePoint.f
  by_cases c : leavesOk l = true
  · obtain ⟨h2, hz⟩ := leaves_are2 c
    refine ⟨((l.length : Int), root l), bs (spec_leaves l (by omega) h) ?_, bs (impl_leaves l (by omega) h) ?_⟩
    · rw [if_pos c]
      exact bs (spec_root (by omega) h2 hz) rfl
    · rw [if_pos c]
      exact bs (impl_root (by omega) h2 hz) rfl
  · refine ⟨(0, 0, 0, 0, 0), bs (spec_leaves l (by omega) h) ?_, bs (impl_leaves l (by omega) h) ?_⟩
    · rw [if_neg c]
    · rw [if_neg c]
theorem treePoint_at (k : Nat) (hk : 1099511627776 < k) (l : List ByteArray) (h : l.length ≤ 9223372036854775807) (hs : ∀ s ∈ l, s.size ≤ 9223372036854775807) : laws_FnExactTreePoint.f k l = some true := by
  unfold laws_FnExactTreePoint.f
  obtain ⟨r, hr, hb⟩ := szStrs (k := k) l 1048576 (by omega) h hs (by omega) (by omega)
  refine bs hr ?_
  by_cases h0 : r < 0
  · rw [if_pos h0]
  · have hl : l.length < 1099511627776 := by omega
    rw [if_neg h0]
    obtain ⟨d, e1, e2⟩ := point_is hk hl
    refine bs (toStrs l (by omega) hl) (bs e1 (bs (toStrs l (by omega) hl) (bs e2 ?_)))
    refine bs (v := true) (by simp [laws_eqPoint.f, laws_eqDigest.f]) ?_
    rw [if_pos rfl]
    refine bs (toStrs l (by omega) hl) (bs (eqStrs l (by omega) hl) ?_)
    rw [if_pos rfl]
theorem FnExactTreePoint (y0 : List ByteArray) (h : y0.length ≤ 9223372036854775807 ∧ ∀ y_ ∈ y0, y_.size ≤ 9223372036854775807) : ∃ k, laws_FnExactTreePoint.f k y0 = some true := ⟨1099511627777, treePoint_at _ (by omega) y0 h.1 h.2⟩
end Go.Proofs.Ytemfciflhbhobaa.Pure
