/- TreeSplit answers as the reference's, for all arguments: the plain law behind FnExactTreeSplit. No condition. -/
import Derived.Test.YtfbhlofifodkjaaFLawsFnExactTreeSplit
import Derived.Test.YtfbhlofifodkjaaQSplit
namespace Go.Proofs.Ytfbhlofifodkjaa.Pure
open Go.RowKit Go.Proofs.Ytfbhlofifodkjaa.B Go.Proofs.Ytfbhlofifodkjaa.Q Go.Proofs.YtfbhlofifodkjaaW.PrintWords Go.Proofs.YtfbhlofifodkjaaW.PrintLast
theorem FnExactTreeSplit : laws_FnExactTreeSplit.Pure := by
  intro a _
  obtain ⟨r, hr⟩ := split_some a
  refine ⟨8, ?_⟩
  unfold laws_FnExactTreeSplit.f
  rw [hr 8 (Nat.le_refl _), impl_is_spec_split, hr 8 (Nat.le_refl _)]
  simp
end Go.Proofs.Ytfbhlofifodkjaa.Pure
