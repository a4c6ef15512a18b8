/- GrowthCheck answers as the reference's: the plain law behind FnExactGrowthCheck. No condition. -/
import Derived.Test.YtflckegggopdnaaFLawsFnExactGrowthCheck
import Derived.Test.YtflckegggopdnaaOpenK
import Derived.Test.YtflckegggopdnaaQGCheck
namespace Go.Proofs.Ytflckegggopdnaa.Pure
open Go.RowKit Go.Proofs.Ytflckegggopdnaa.Opening Go.Proofs.Ytflckegggopdnaa.B Go.Proofs.Ytflckegggopdnaa.Q Go.Proofs.YtflckegggopdnaaW.PrintWords Go.Proofs.YtflckegggopdnaaW.PrintLast
set_option linter.unusedVariables false
set_option linter.unusedSimpArgs false
theorem growthCheck_at (k : Nat) (hk : 1099511627776 < k) (p q : Int × D4) (l : List LD) (h : l.length ≤ 9223372036854775807) : laws_FnExactGrowthCheck.f (k + 2) p.1 p.2.1 p.2.2.1 p.2.2.2.1 p.2.2.2.2 q.1 q.2.1 q.2.2.1 q.2.2.2.1 q.2.2.2.2 l = some true := by
  unfold laws_FnExactGrowthCheck.f
  obtain ⟨r, hr, hb⟩ := szDigs l 1048576 h (by omega) (by omega)
  refine bsk hr ?_
  by_cases h0 : r < 0
  · rw [if_pos h0]
  · have hl : l.length < 1099511627776 := by omega
    have hl2 : (l.map conv).length < 1099511627776 := by simpa using hl
    rw [if_neg h0]
    have ep : ∀ p : Int × D4, laws_toPoint.f p.1 p.2.1 p.2.2.1 p.2.2.2.1 p.2.2.2.2 = some p := fun _ => rfl
    refine bsk (ep p) (bsk (ep q) (bsk (toDigs l (by omega) hl) (bsk (spec_gcheck (k := k + 1) (by omega) p.1 q.1 p.2 q.2 hl2) (bsk (toDigs l (by omega) hl) (bsk (ep p) (bsk (ep q) (bsk (impl_gcheck (k := k) (by omega) p.1 q.1 p.2 q.2 hl2) ?_)))))))
    rw [if_pos rfl]
    refine bsk (toDigs l (by omega) hl) (bsk (eqDigs _ (by simpa using (by omega : l.length < k + 2)) hl2) ?_)
    rw [if_pos rfl]
theorem FnExactGrowthCheck (y0 : S26) (y1 : S26) (y2 : List LD) (h0 : ok26 y0) (h1 : ok26 y1) (h2 : y2.length ≤ 9223372036854775807 ∧ ∀ y_ ∈ y2, ok24 y_) : ∃ k, laws_FnExactGrowthCheck.f k (y0.f0) (y0.f1.f0) (y0.f1.f1) (y0.f1.f2) (y0.f1.f3) (y1.f0) (y1.f1.f0) (y1.f1.f1) (y1.f1.f2) (y1.f1.f3) y2 = some true := ⟨1099511627777 + 2, growthCheck_at _ (by omega) (y0.f0, y0.f1.f0, y0.f1.f1, y0.f1.f2, y0.f1.f3) (y1.f0, y1.f1.f0, y1.f1.f1, y1.f1.f2, y1.f1.f3) y2 h2.1⟩
end Go.Proofs.Ytflckegggopdnaa.Pure
