/- PeaksRoot answers as the reference's: the plain law behind FnExactPeaksRoot. No condition. -/
import Derived.Test.YtfbhlofifodkjaaFLawsFnExactPeaksRoot
import Derived.Test.YtfbhlofifodkjaaOpenK
import Derived.Test.YtfbhlofifodkjaaQPeaks
namespace Go.Proofs.Ytfbhlofifodkjaa.Pure
open Go.RowKit Go.Proofs.Ytfbhlofifodkjaa.B Go.Proofs.Ytfbhlofifodkjaa.Q Go.Proofs.Ytfbhlofifodkjaa.Opening Go.Proofs.YtfbhlofifodkjaaW.PrintWords Go.Proofs.YtfbhlofifodkjaaW.PrintLast
theorem peaksRoot_at (k : Nat) (hk : 1099511627776 < k) (l : List LD) (h : l.length ≤ 9223372036854775807) : laws_FnExactPeaksRoot.f k l = some true := by
  unfold laws_FnExactPeaksRoot.f
  obtain ⟨r, hr, hb⟩ := szDigs l 1048576 h (by omega) (by omega)
  rw [hr]
  simp only [Option.bind_some]
  by_cases h0 : r < 0
  · rw [if_pos h0]
  · rw [if_neg h0, toDigs l (by omega) (by omega)]
    simp only [Option.bind_some]
    rw [spec_proot (by omega) _ (by simp; omega), impl_proot (by omega) _ (by simp; omega)]
    obtain ⟨a, b, c, d⟩ := peaksRoot (l.map conv)
    simp only [Option.bind_some]
    unfold laws_eqDigest.f
    simp only [if_true, Option.bind_some]
    rw [eqDigs _ (by simp; omega) (by simp; omega)]
    rfl
theorem FnExactPeaksRoot (y0 : List LD) (h : y0.length ≤ 9223372036854775807 ∧ ∀ y_ ∈ y0, ok28 y_) : ∃ k, laws_FnExactPeaksRoot.f k y0 = some true := ⟨1099511627777, peaksRoot_at _ (by omega) y0 h.1⟩
end Go.Proofs.Ytfbhlofifodkjaa.Pure
