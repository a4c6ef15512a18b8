/- LeavesOk answers as the reference's: the plain law behind FnExactLeavesOk. No condition. -/
import Derived.Test.YtfbhlofifodkjaaFLawsFnExactLeavesOk
import Derived.Test.YtfbhlofifodkjaaQLeaves
namespace Go.Proofs.Ytfbhlofifodkjaa.Pure
open Go.RowKit Go.Proofs.Ytfbhlofifodkjaa.B Go.Proofs.Ytfbhlofifodkjaa.Q Go.Proofs.YtfbhlofifodkjaaW.PrintWords Go.Proofs.YtfbhlofifodkjaaW.PrintLast
theorem leavesOk_at (k : Nat) (hk : 1099511627776 < k) (l : List ByteArray) (h : l.length ≤ 9223372036854775807 ∧ ∀ y_ ∈ l, y_.size ≤ 9223372036854775807) : laws_FnExactLeavesOk.f k l = some true := by
  unfold laws_FnExactLeavesOk.f
  obtain ⟨r, hr, hb⟩ := szStrs (k := k) l 1048576 (by omega) h.1 h.2 (by omega) (by omega)
  rw [hr]
  simp only [Option.bind_some]
  by_cases h0 : r < 0
  · rw [if_pos h0]
  · rw [if_neg h0, toStrs l (by omega) (by omega)]
    simp only [Option.bind_some]
    rw [spec_leaves l (by omega) (by omega), impl_leaves l (by omega) (by omega)]
    simp only [Option.bind_some]
    rw [if_neg (by simp), eqStrs l (by omega) (by omega)]
    rfl
theorem FnExactLeavesOk (y0 : List ByteArray) (h : y0.length ≤ 9223372036854775807 ∧ ∀ y_ ∈ y0, y_.size ≤ 9223372036854775807) : ∃ k, laws_FnExactLeavesOk.f k y0 = some true := ⟨1099511627777, leavesOk_at _ (by omega) y0 h⟩
end Go.Proofs.Ytfbhlofifodkjaa.Pure
