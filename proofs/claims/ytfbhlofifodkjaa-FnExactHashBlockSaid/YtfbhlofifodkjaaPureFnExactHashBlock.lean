/- HashBlock answers as the reference's: the plain law behind FnExactHashBlock. No condition. -/
import Derived.Test.YtfbhlofifodkjaaFLawsFnExactHashBlock
import Derived.Test.YtfbhlofifodkjaaOpenK
import Derived.Test.YtfbhlofifodkjaaQBlock
namespace Go.Proofs.Ytfbhlofifodkjaa.Pure
open Go.RowKit Go.Proofs.Ytfbhlofifodkjaa.B Go.Proofs.Ytfbhlofifodkjaa.Q Go.Proofs.Ytfbhlofifodkjaa.Opening Go.Proofs.YtfbhlofifodkjaaW.PrintWords Go.Proofs.YtfbhlofifodkjaaW.PrintLast
theorem hashBlock_at (y0 y1 : S28) (k : Nat) (h : ∃ r : D4, spec_HashBlock.f k y0.f0 y0.f1 y0.f2 y0.f3 y1.f0 y1.f1 y1.f2 y1.f3 = some r ∧ impl_HashBlock.f k y0.f0 y0.f1 y0.f2 y0.f3 y1.f0 y1.f1 y1.f2 y1.f3 = some r) : laws_FnExactHashBlock.f k y0.f0 y0.f1 y0.f2 y0.f3 y1.f0 y1.f1 y1.f2 y1.f3 = some true := by
  unfold laws_FnExactHashBlock.f laws_toDigest.f
  simp only [Option.bind_some]
  obtain ⟨⟨a, b, c, d⟩, h1, h2⟩ := h
  rw [h1, h2]
  simp only [Option.bind_some]
  unfold laws_eqDigest.f
  simp
theorem FnExactHashBlock (y0 : S28) (y1 : S28) (_ : ok28 y0) (_ : ok28 y1) : ∃ k, laws_FnExactHashBlock.f k y0.f0 y0.f1 y0.f2 y0.f3 y1.f0 y1.f1 y1.f2 y1.f3 = some true :=
  ⟨11, hashBlock_at y0 y1 11 ⟨_, spec_block (by omega) _ _ _ _ _ _ _ _, impl_block (by omega) _ _ _ _ _ _ _ _⟩⟩
end Go.Proofs.Ytfbhlofifodkjaa.Pure
