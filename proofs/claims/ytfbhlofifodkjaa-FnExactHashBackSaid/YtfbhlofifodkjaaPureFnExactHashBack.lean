/- HashBack answers as the reference's: the plain law behind FnExactHashBack. No condition. -/
import Derived.Test.YtfbhlofifodkjaaFLawsFnExactHashBack
import Derived.Test.YtfbhlofifodkjaaQHash
namespace Go.Proofs.Ytfbhlofifodkjaa.Pure
open Go.RowKit Go.Proofs.Ytfbhlofifodkjaa.B Go.Proofs.Ytfbhlofifodkjaa.Q Go.Proofs.YtfbhlofifodkjaaW.PrintWords Go.Proofs.YtfbhlofifodkjaaW.PrintLast
theorem hback (k : Nat) (hk : 9 ≤ k) (s : ByteArray) : ∃ r : Int × Int × Int × Int × Bool, spec_HashBack.f k s = some r ∧ impl_HashBack.f s = some r := by
  unfold spec_HashBack.f impl_HashBack.f
  by_cases h : (s.size : Int) = 32
  · have hl : (bytesOf s).length = 32 := by rw [bytesOf_length]; omega
    have w := fun (i : Nat) (hi : i + 8 ≤ s.size) => spec_word hk s i hi (by omega)
    have w0 := w 0 (by omega)
    have w1 := w 8 (by omega)
    have w2 := w 16 (by omega)
    have w3 := w 24 (by omega)
    rw [show ((0 : Nat) : Int) = 0 by rfl, List.drop_zero] at w0
    rw [show ((8 : Nat) : Int) = 8 by rfl] at w1
    rw [show ((16 : Nat) : Int) = 16 by rfl] at w2
    rw [show ((24 : Nat) : Int) = 24 by rfl] at w3
    rw [if_pos h, if_pos h, w0, w1, w2, w3, digest_is hl (bytesOf_8 s)]
    exact ⟨_, rfl, rfl⟩
  · rw [if_neg h, if_neg h]
    exact ⟨_, rfl, rfl⟩
theorem hashBack_at (k : Nat) (hk : 9 ≤ k) (s : ByteArray) : laws_FnExactHashBack.f k s = some true := by
  unfold laws_FnExactHashBack.f
  by_cases h : (s.size : Int) > 1048576
  · rw [if_pos h]
  · rw [if_neg h]
    obtain ⟨⟨a, b, c, d, e⟩, h1, h2⟩ := hback k hk s
    rw [h1, h2]
    simp [laws_eqDigest.f]
theorem FnExactHashBack (y0 : ByteArray) (_ : y0.size ≤ 9223372036854775807) : ∃ k, laws_FnExactHashBack.f k y0 = some true := ⟨30, hashBack_at _ (by omega) y0⟩
end Go.Proofs.Ytfbhlofifodkjaa.Pure
