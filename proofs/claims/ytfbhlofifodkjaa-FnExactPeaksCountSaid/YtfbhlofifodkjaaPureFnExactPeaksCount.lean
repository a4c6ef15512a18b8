/- PeaksCount answers as the reference's, for all arguments: the plain law behind FnExactPeaksCount. No condition. -/
import Derived.Test.YtfbhlofifodkjaaFLawsFnExactPeaksCount
import Derived.Test.YtfbhlofifodkjaaQCount
namespace Go.Proofs.Ytfbhlofifodkjaa.Pure
open Go.RowKit Go.Proofs.Ytfbhlofifodkjaa.B Go.Proofs.Ytfbhlofifodkjaa.Q Go.Proofs.YtfbhlofifodkjaaW.PrintWords Go.Proofs.YtfbhlofifodkjaaW.PrintLast
theorem FnExactPeaksCount : laws_FnExactPeaksCount.Pure := by
  intro a _
  refine ⟨10, ?_⟩
  unfold laws_FnExactPeaksCount.f
  by_cases h : 0 ≤ a ∧ a ≤ 256
  · obtain ⟨n, rfl⟩ : ∃ n : Nat, a = n := ⟨a.toNat, by omega⟩
    rw [spec_count (Nat.le_refl _) (by omega), impl_count (by omega)]
    simp
  · rw [spec_count_out (by omega), impl_count_out (by omega)]
    simp
end Go.Proofs.Ytfbhlofifodkjaa.Pure
