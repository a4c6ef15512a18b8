/- The peaks of drawn leaves make their root: the plain law behind FnPeaks. No condition. -/
import Derived.Test.YtemfciflhbhobaaFLawsFnPeaks
import Derived.Test.YtemfciflhbhobaaOpenK
import Derived.Test.YtemfciflhbhobaaQRoots
import Derived.Test.YtemfciflhbhobaaQSome
namespace Go.Proofs.Ytemfciflhbhobaa.Pure
open Go.RowKit Go.Proofs.Ytemfciflhbhobaa.B Go.Proofs.Ytemfciflhbhobaa.Q Go.Proofs.YtemfciflhbhobaaW.PrintWords Go.Proofs.YtemfciflhbhobaaW.PrintLast
set_option linter.unusedVariables false
set_option linter.unusedSimpArgs false
theorem treeRoot_impl {k : Nat} (hk : 40000 < k) {l : List ByteArray} (c : leavesOk l = true) : impl_TreeRoot.f k l = some (root l) := by
  obtain ⟨h2, hz⟩ := leaves_fit c
  unfold impl_TreeRoot.f
  refine bs (impl_leaves l (by omega) (by omega)) ?_
  rw [if_pos c]
  exact bs (impl_root (by omega) h2 hz) rfl
theorem treeRoot_spec {k : Nat} (hk : 40000 < k) {l : List ByteArray} (c : leavesOk l = true) : spec_TreeRoot.f k l = some (root l) := by
  obtain ⟨h2, hz⟩ := leaves_fit c
  unfold spec_TreeRoot.f
  refine bs (spec_leaves l (by omega) (by omega)) ?_
  rw [if_pos c]
  exact bs (spec_root (by omega) h2 hz) rfl
theorem peaks_at (k : Nat) (hk : 1099511627776 < k) (c : List Int) (hc : Bytes8 c) : laws_FnPeaks.f k c = some true := by
  unfold laws_FnPeaks.f
  by_cases h0 : (c.length : Int) > 1048576
  · rw [if_pos h0]
  · rw [if_neg h0]
    obtain ⟨b, e1, hr⟩ := open_ok c hc
    obtain ⟨l, q, e2, hl, hs, _, _⟩ := some_ok (k := k) (by omega) hr (by omega)
    have e3 : spec_DrawTreePeaks.f k c = some l := by
      unfold spec_DrawTreePeaks.f spec_l2Open.f
      exact bs e1 (bs e2 rfl)
    refine bs e3 (bs (impl_treePeaks hk (by omega)) (bs (spec_leaves l (by omega) (by omega)) ?_))
    unfold treePeaks
    by_cases cl : leavesOk l = true
    · obtain ⟨h2, hz⟩ := leaves_fit cl
      rw [if_pos cl, if_pos cl]
      have hp := peaks_count l.length l (Nat.le_refl _) h2
      refine bs (impl_count h2) ?_
      rw [hp, if_pos rfl]
      refine bs (spec_count (by omega) h2) ?_
      rw [if_pos rfl]
      refine bs (v := root l) ?_ ?_
      · rw [impl_proot (by omega) _ (by have := peaks_len l; omega), peaksRoot_peaks h2]
      · refine bs (treeRoot_impl (by omega) cl) ?_
        rw [if_pos (by simp)]
        refine bs (treeRoot_impl (by omega) cl) (bs (treeRoot_spec (by omega) cl) ?_)
        simp
    · rw [if_neg cl, if_neg cl]
      rfl
theorem FnPeaks (y0 : List Int) (h : y0.length ≤ 9223372036854775807 ∧ ∀ y_ ∈ y0, (Lit.int .u8 y_).wf = true) : ∃ k, laws_FnPeaks.f k y0 = some true := ⟨1099511627777, peaks_at _ (by omega) y0 fun x hx => by
    have := h.2 x hx
    simp [Lit.wf, IntKind.min, IntKind.max, IntKind.signed, IntKind.bits] at this
    omega⟩
end Go.Proofs.Ytemfciflhbhobaa.Pure
