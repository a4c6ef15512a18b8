/- ClashOk answers as the reference's: the plain law behind FnExactClashOk. No condition. -/
import Derived.Test.YtfbhlofifodkjaaFLawsFnExactClashOk
import Derived.Test.YtfbhlofifodkjaaOpenK
import Derived.Test.YtfbhlofifodkjaaQClash
namespace Go.Proofs.Ytfbhlofifodkjaa.Pure
open Go.RowKit Go.Proofs.Ytfbhlofifodkjaa.B Go.Proofs.Ytfbhlofifodkjaa.Q Go.Proofs.Ytfbhlofifodkjaa.Opening Go.Proofs.YtfbhlofifodkjaaW.PrintWords Go.Proofs.YtfbhlofifodkjaaW.PrintLast
theorem FnExactClashOk (y0 : S52) (h : ok52 y0) : ∃ k, laws_FnExactClashOk.f k y0.f0 y0.f1 = some true := by
  refine ⟨30000, ?_⟩
  unfold laws_FnExactClashOk.f
  obtain ⟨z, hz⟩ : ∃ z, laws_szClash.f y0.f0 y0.f1 1048576 = some z := by
    unfold laws_szClash.f
    split
    · exact ⟨_, rfl⟩
    · split <;> exact ⟨_, rfl⟩
  rw [hz]
  simp only [Option.bind_some]
  split
  · rfl
  · unfold laws_toClash.f
    simp only [Option.bind_some]
    rw [spec_clash (Nat.le_refl _), impl_clash (Nat.le_refl _)]
    simp
end Go.Proofs.Ytfbhlofifodkjaa.Pure
