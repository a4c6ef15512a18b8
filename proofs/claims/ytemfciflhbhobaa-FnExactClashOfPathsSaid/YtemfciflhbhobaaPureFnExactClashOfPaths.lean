/- ClashOfPaths answers as the reference's: the plain law behind FnExactClashOfPaths. No condition. -/
import Derived.Test.YtemfciflhbhobaaFLawsFnExactClashOfPaths
import Derived.Test.YtemfciflhbhobaaOpenK
import Derived.Test.YtemfciflhbhobaaQClashP
namespace Go.Proofs.Ytemfciflhbhobaa.Pure
open Go.RowKit Go.Proofs.Ytemfciflhbhobaa.Opening Go.Proofs.Ytemfciflhbhobaa.B Go.Proofs.Ytemfciflhbhobaa.Q Go.Proofs.YtemfciflhbhobaaW.PrintWords Go.Proofs.YtemfciflhbhobaaW.PrintLast
set_option linter.unusedVariables false
set_option linter.unusedSimpArgs false
theorem clashPaths_at (k : Nat) (hk : 2199023255552 < k) (n i : Int) (s : ByteArray) (l : List LD) (t : ByteArray) (m : List LD) (h : l.length ≤ 9223372036854775807) (h' : m.length ≤ 9223372036854775807) : laws_FnExactClashOfPaths.f (k + 1) n i s l t m = some true := by
  unfold laws_FnExactClashOfPaths.f
  by_cases h1 : (s.size : Int) > 1048576
  · rw [if_pos h1]
  · rw [if_neg h1]
    by_cases h2 : (t.size : Int) > 1048576
    · rw [if_pos h2]
    · rw [if_neg h2]
      obtain ⟨r, hr, hb⟩ := szDigs l 1048576 h (by omega) (by omega)
      refine bsu hr ?_
      by_cases h0 : r < 0
      · rw [if_pos h0]
      · rw [if_neg h0]
        obtain ⟨r', hr', hb'⟩ := szDigs m r h' (by omega) (by omega)
        refine bsu hr' ?_
        by_cases h0' : r' < 0
        · rw [if_pos h0']
        · rw [if_neg h0']
          have hl : l.length < 1099511627776 := by omega
          have hm : m.length < 1099511627776 := by omega
          have hl2 : (l.map conv).length < 1099511627776 := by simpa using hl
          have hm2 : (m.map conv).length < 1099511627776 := by simpa using hm
          have tl := toDigs (k := k + 1) l (by omega) hl
          have tm := toDigs (k := k + 1) m (by omega) hm
          refine bsu tl (bsu tm (bsu (spec_clashPaths (by omega) n i s _ t _ hl2 hm2) (bsu tl (bsu tm (bsu (impl_clashPaths (by omega) n i s _ t _ hl2 hm2) ?_)))))
          generalize clashPaths n i s (l.map conv) t (m.map conv) = c
          have ec : laws_eqClash.f c.1 c.2.1 c.1 c.2.1 = some true := by unfold laws_eqClash.f; rw [if_pos rfl, if_pos rfl]
          refine bsu ec ?_
          rw [if_pos rfl, bne_self_eq_false]
          simp only [laws_FnExactClashOfPaths.j0]
          rw [if_neg (by simp)]
          refine bsu (toDigs l (by omega) hl) (bsu (eqDigs _ (by omega) hl2) ?_)
          rw [if_pos rfl]
          refine bsu (toDigs m (by omega) hm) (bsu (eqDigs _ (by omega) hm2) ?_)
          rw [if_pos rfl]
theorem FnExactClashOfPaths (y0 y1 : Int) (y2 : ByteArray) (y3 : List LD) (y4 : ByteArray) (y5 : List LD) (h0 : (Lit.int .i64 y0).wf = true) (h1 : (Lit.int .i64 y1).wf = true) (h2 : y2.size ≤ 9223372036854775807) (h3 : y3.length ≤ 9223372036854775807 ∧ ∀ y_ ∈ y3, ok24 y_) (h4 : y4.size ≤ 9223372036854775807) (h5 : y5.length ≤ 9223372036854775807 ∧ ∀ y_ ∈ y5, ok24 y_) : ∃ k, laws_FnExactClashOfPaths.f k y0 y1 y2 y3 y4 y5 = some true := ⟨2199023255553 + 1, clashPaths_at _ (by omega) y0 y1 y2 y3 y4 y5 h3.1 h5.1⟩
end Go.Proofs.Ytemfciflhbhobaa.Pure
