/- ClashRow answers as the reference's, in memory of its own: the plain law behind FnExactClashRow. No condition. -/
import Derived.Test.YtemfciflhbhobaaFLawsFnExactClashRow
import Derived.Test.YtemfciflhbhobaaOpenK
import Derived.Test.YtemfciflhbhobaaQRow
import Derived.Test.YtemfciflhbhobaaQHeldS
import Derived.Test.YtemfciflhbhobaaQMarkD
namespace Go.Proofs.Ytemfciflhbhobaa.Pure
open Go.RowKit Go.Proofs.Ytemfciflhbhobaa.Opening Go.Proofs.Ytemfciflhbhobaa.B Go.Proofs.Ytemfciflhbhobaa.Q Go.Proofs.YtemfciflhbhobaaW.PrintWords Go.Proofs.YtemfciflhbhobaaW.PrintLast
set_option linter.unusedVariables false
set_option linter.unusedSimpArgs false
theorem clashRow_at (k : Nat) (hk : 2199023255552 < k) (n i : Int) (s : ByteArray) (l : List LD) (h : l.length ≤ 9223372036854775807) : laws_FnExactClashRow.f (k + 3) n i s l = some true := by
  unfold laws_FnExactClashRow.f
  by_cases h1 : (s.size : Int) > 1048576
  · rw [if_pos h1]
  · rw [if_neg h1]
    obtain ⟨r, hr, hb⟩ := szDigs l 1048576 h (by omega) (by omega)
    refine bsu hr ?_
    by_cases h0 : r < 0
    · rw [if_pos h0]
    · have hl : l.length < 1099511627776 := by omega
      have hl2 : (l.map conv).length < 1099511627776 := by simpa using hl
      rw [if_neg h0]
      have hp := clashRow_len n i s (l.map conv)
      have en : ((clashRow n i s (l.map conv)).2 != (clashRow n i s (l.map conv)).2) = false := bne_self_eq_false _
      refine bsu (toDigs l (by omega) hl) (bsu (spec_clashRow (by omega) n i s _ hl2) (bsu (toDigs l (by omega) hl) (bsu (impl_clashRow (by omega) n i s _) (bsu (eqStrs _ (by omega) (by omega)) ?_))))
      rw [if_pos rfl, en]
      simp only [laws_FnExactClashRow.j0]
      rw [if_neg (by simp)]
      refine bsu (toDigs l (by omega) hl) (bsu (eqDigs _ (by omega) hl2) ?_)
      rw [if_pos rfl]
      obtain ⟨r1, e1, _, n1⟩ := markDigs (k := k + 2) (l.map conv) (by omega) hl2
      refine bsu e1 ?_
      rw [if_neg n1]
      refine bsu (eqStrs _ (by omega) (by omega)) ?_
      rw [if_pos rfl, en]
      simp only [laws_FnExactClashRow.j1]
      rw [if_neg (by simp)]
      obtain ⟨r2, e2, e3, e4, n2⟩ := markStrs2 (k := k) (clashRow n i s (l.map conv)).1 (by omega) (by omega)
      refine bsu e2 (bsu e3 ?_)
      rw [if_neg n2, if_pos rfl]
      refine bsu (toDigs l (by omega) hl) (bsu (impl_clashRow (by omega) n i s _) (bsu (eqStrs _ (by omega) (by omega)) ?_))
      rw [if_pos rfl, en]
      simp only [laws_FnExactClashRow.j2]
      rw [if_neg (by simp)]
      refine bsu e4 ?_
      rw [if_neg n2, if_pos rfl]
theorem FnExactClashRow (y0 y1 : Int) (y2 : ByteArray) (y3 : List LD) (h0 : (Lit.int .i64 y0).wf = true) (h1 : (Lit.int .i64 y1).wf = true) (h2 : y2.size ≤ 9223372036854775807) (h3 : y3.length ≤ 9223372036854775807 ∧ ∀ y_ ∈ y3, ok24 y_) : ∃ k, laws_FnExactClashRow.f k y0 y1 y2 y3 = some true := ⟨2199023255553 + 3, clashRow_at _ (by omega) y0 y1 y2 y3 h3.1⟩
end Go.Proofs.Ytemfciflhbhobaa.Pure
