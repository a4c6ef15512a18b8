/- ClashOk as a plain function: the program's and the reference's come to it. No condition. -/
import Derived.Test.YtfbhlofifodkjaaQHash
import Derived.Test.YtfbhlofifodkjaaFImplClashOk
import Derived.Test.YtfbhlofifodkjaaFSpecClashOk
namespace Go.Proofs.Ytfbhlofifodkjaa.Q
open Go.RowKit Go.Proofs.Ytfbhlofifodkjaa.B Go.Proofs.YtfbhlofifodkjaaW.PrintWords Go.Proofs.YtfbhlofifodkjaaW.PrintLast Go.Proofs.YtfbhlofifodkjaaW.PrintMore
def clashOk (s t : ByteArray) : Bool := decide (s.size ≤ 20000) && decide (t.size ≤ 20000) && !decide (s.toList = t.toList) && decide (hashOf s = hashOf t)
theorem d4_beq (x y : D4) : (x.1 == y.1 && (x.2.1 == y.2.1 && (x.2.2.1 == y.2.2.1 && (x.2.2.2 == y.2.2.2)))) = decide (x = y) := by
  obtain ⟨a, b, c, d⟩ := x
  obtain ⟨e, f, g, h⟩ := y
  rw [Bool.eq_iff_iff]
  simp
theorem spec_clash {k : Nat} (hk : 30000 ≤ k) (s t : ByteArray) : spec_ClashOk.f k s t = some (clashOk s t) := by
  unfold spec_ClashOk.f clashOk
  by_cases h1 : s.size ≤ 20000
  · rw [if_pos (by omega)]
    by_cases h2 : t.size ≤ 20000
    · rw [if_pos (by omega)]
      by_cases h3 : s.toList = t.toList
      · rw [if_pos h3]; simp [h3]
      · rw [if_neg h3, spec_hash hk, spec_hash hk]
        simp only [Option.bind_some, d4_beq]
        simp [h1, h2, h3]
    · rw [if_neg (by omega)]; simp [h2]
  · rw [if_neg (by omega)]; simp [h1]
theorem impl_clash {k : Nat} (hk : 30000 ≤ k) (s t : ByteArray) : impl_ClashOk.f k s t = some (clashOk s t) := by
  unfold impl_ClashOk.f clashOk
  by_cases h3 : s.toList = t.toList
  · rw [if_pos h3]; simp [h3]
  · rw [if_neg h3]
    by_cases h1 : s.size ≤ 20000
    · rw [if_pos (by omega)]
      by_cases h2 : t.size ≤ 20000
      · rw [if_pos (by omega), impl_hash hk, impl_hash hk]
        simp only [Option.bind_some, d4_beq]
        simp [h1, h2, h3]
      · rw [if_neg (by omega)]; simp [h2]
    · rw [if_neg (by omega)]; simp [h1]
end Go.Proofs.Ytfbhlofifodkjaa.Q
