/- WireName answers as the reference's, for all arguments: the plain law behind FnExactWireName. No condition. -/
import Derived.Test.YtfbhlofifodkjaaFLawsFnExactWireName
namespace Go.Proofs.Ytfbhlofifodkjaa.Pure
open Go.RowKit Go.Proofs.Ytfbhlofifodkjaa.B Go.Proofs.YtfbhlofifodkjaaW.PrintWords Go.Proofs.YtfbhlofifodkjaaW.PrintLast
theorem wireName_some (a : Int) : ∃ s, spec_WireName.f a = some s ∧ impl_WireName.f a = some s := by
  by_cases h : 1 ≤ a ∧ a ≤ 8
  · have : a = 1 ∨ a = 2 ∨ a = 3 ∨ a = 4 ∨ a = 5 ∨ a = 6 ∨ a = 7 ∨ a = 8 := by omega
    rcases this with rfl | rfl | rfl | rfl | rfl | rfl | rfl | rfl <;> exact ⟨_, rfl, rfl⟩
  · unfold spec_WireName.f impl_WireName.f impl_in.f
    rw [if_neg (by omega), if_neg (by omega), if_neg (by omega), if_neg (by omega), if_neg (by omega), if_neg (by omega), if_neg (by omega), if_neg (by omega)]
    by_cases h1 : a ≥ 1
    · rw [if_pos h1, show decide (a ≤ 8) = false from by simp; omega]; exact ⟨_, rfl, rfl⟩
    · rw [if_neg h1]; exact ⟨_, rfl, rfl⟩
theorem FnExactWireName : laws_FnExactWireName.Pure := by
  intro a _
  obtain ⟨s, h1, h2⟩ := wireName_some a
  unfold laws_FnExactWireName.f
  rw [h1, h2]
  simp
end Go.Proofs.Ytfbhlofifodkjaa.Pure
