/- ClashFirst answers as the reference's: the plain law behind FnExactClashFirst. No condition. -/
import Derived.Test.YtfbhlofifodkjaaFLawsFnExactClashFirst
import Derived.Test.YtfbhlofifodkjaaQFirst
namespace Go.Proofs.Ytfbhlofifodkjaa.Pure
open Go.RowKit Go.Proofs.Ytfbhlofifodkjaa.B Go.Proofs.Ytfbhlofifodkjaa.Q Go.Proofs.YtfbhlofifodkjaaW.PrintWords Go.Proofs.YtfbhlofifodkjaaW.PrintLast
theorem clashFirst_at (k : Nat) (hk : 4398046511104 < k) (l m : List ByteArray) (h : l.length ≤ 9223372036854775807 ∧ ∀ y_ ∈ l, y_.size ≤ 9223372036854775807) (h' : m.length ≤ 9223372036854775807 ∧ ∀ y_ ∈ m, y_.size ≤ 9223372036854775807) : laws_FnExactClashFirst.f k l m = some true := by
  unfold laws_FnExactClashFirst.f
  obtain ⟨r, hr, hb⟩ := szStrs (k := k) l 1048576 (by omega) h.1 h.2 (by omega) (by omega)
  rw [hr]
  simp only [Option.bind_some]
  by_cases h0 : r < 0
  · rw [if_pos h0]
  · rw [if_neg h0]
    obtain ⟨r', hr', hb'⟩ := szStrs (k := k) m r (by omega) h'.1 h'.2 (by omega) (by omega)
    rw [hr']
    simp only [Option.bind_some]
    by_cases h0' : r' < 0
    · rw [if_pos h0']
    · rw [if_neg h0', toStrs l (by omega) (by omega), toStrs m (by omega) (by omega)]
      simp only [Option.bind_some]
      rw [spec_first l m (by omega) (by omega), impl_first l m (by omega) (by omega)]
      obtain ⟨k, rfl⟩ : ∃ n, k = n + 1 := ⟨k - 1, by omega⟩
      simp only [Option.bind_some]
      unfold laws_eqClash.f
      simp only [if_true, Option.bind_some, bne_self_eq_false, laws_FnExactClashFirst.j0]
      rw [if_neg (by simp), toStrs l (by omega) (by omega), toStrs m (by omega) (by omega)]
      simp only [Option.bind_some]
      rw [eqStrs l (by omega) (by omega), eqStrs m (by omega) (by omega)]
      rfl
theorem FnExactClashFirst (y0 y1 : List ByteArray) (h : y0.length ≤ 9223372036854775807 ∧ ∀ y_ ∈ y0, y_.size ≤ 9223372036854775807) (h' : y1.length ≤ 9223372036854775807 ∧ ∀ y_ ∈ y1, y_.size ≤ 9223372036854775807) : ∃ k, laws_FnExactClashFirst.f k y0 y1 = some true := ⟨4398046511105, clashFirst_at _ (by omega) y0 y1 h h'⟩
end Go.Proofs.Ytfbhlofifodkjaa.Pure
