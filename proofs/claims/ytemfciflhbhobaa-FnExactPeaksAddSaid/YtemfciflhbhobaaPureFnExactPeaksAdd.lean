/- PeaksAdd answers as the reference's, in memory of its own: the plain law behind FnExactPeaksAdd. No condition. -/
import Derived.Test.YtemfciflhbhobaaFLawsFnExactPeaksAdd
import Derived.Test.YtemfciflhbhobaaOpenK
import Derived.Test.YtemfciflhbhobaaQAdd
import Derived.Test.YtemfciflhbhobaaQMarkD
namespace Go.Proofs.Ytemfciflhbhobaa.Pure
open Go.RowKit Go.Proofs.Ytemfciflhbhobaa.Opening Go.Proofs.Ytemfciflhbhobaa.B Go.Proofs.Ytemfciflhbhobaa.Q Go.Proofs.YtemfciflhbhobaaW.PrintWords Go.Proofs.YtemfciflhbhobaaW.PrintLast
set_option linter.unusedVariables false
set_option linter.unusedSimpArgs false
theorem peaksAdd_at (k : Nat) (hk : 2199023255552 < k) (n : Int) (l : List LD) (s : ByteArray) (h : l.length ≤ 9223372036854775807) : laws_FnExactPeaksAdd.f (k + 3) n l s = some true := by
  unfold laws_FnExactPeaksAdd.f
  by_cases h1 : (s.size : Int) > 1048576
  · rw [if_pos h1]
  · rw [if_neg h1]
    obtain ⟨r, hr, hb⟩ := szDigs l 1048576 h (by omega) (by omega)
    refine bs hr ?_
    by_cases h0 : r < 0
    · rw [if_pos h0]
    · have hl : l.length < 1099511627776 := by omega
      have hl2 : (l.map conv).length < 1099511627776 := by simpa using hl
      rw [if_neg h0]
      have hp := peaksAdd_len n (l.map conv) s
      have en : ((peaksAdd n (l.map conv) s).2 != (peaksAdd n (l.map conv) s).2) = false := bne_self_eq_false _
      refine bs (toDigs l (by omega) hl) (bs (spec_peaksAdd (by omega) n _ s hl2) (bs (toDigs l (by omega) hl) (bs (impl_peaksAdd (by omega) n _ s hl2) (bs (eqDigs _ (by omega) (by omega)) ?_))))
      rw [if_pos rfl, en]
      simp only [laws_FnExactPeaksAdd.j0]
      rw [if_neg (by simp)]
      refine bs (toDigs l (by omega) hl) (bs (eqDigs _ (by omega) hl2) ?_)
      rw [if_pos rfl]
      obtain ⟨r1, e1, _, n1⟩ := markDigs (k := k + 2) (l.map conv) (by omega) hl2
      refine bs e1 ?_
      rw [if_neg n1]
      refine bs (eqDigs _ (by omega) (by omega)) ?_
      rw [if_pos rfl, en]
      simp only [laws_FnExactPeaksAdd.j1]
      rw [if_neg (by simp)]
      obtain ⟨r2, e2, e3, e4, n2⟩ := markDigs2 (k := k) (peaksAdd n (l.map conv) s).1 (by omega) (by omega)
      refine bs e2 (bs e3 ?_)
      rw [if_neg n2, if_pos rfl]
      refine bs (toDigs l (by omega) hl) (bs (impl_peaksAdd (by omega) n _ s hl2) (bs (eqDigs _ (by omega) (by omega)) ?_))
      rw [if_pos rfl, en]
      simp only [laws_FnExactPeaksAdd.j2]
      rw [if_neg (by simp)]
      refine bs e4 ?_
      rw [if_neg n2, if_pos rfl]
theorem FnExactPeaksAdd (y0 : Int) (y1 : List LD) (y2 : ByteArray) (h0 : (Lit.int .i64 y0).wf = true) (h1 : y1.length ≤ 9223372036854775807 ∧ ∀ y_ ∈ y1, ok24 y_) (h2 : y2.size ≤ 9223372036854775807) : ∃ k, laws_FnExactPeaksAdd.f k y0 y1 y2 = some true := ⟨2199023255553 + 3, peaksAdd_at _ (by omega) y0 y1 y2 h1.1⟩
end Go.Proofs.Ytemfciflhbhobaa.Pure
