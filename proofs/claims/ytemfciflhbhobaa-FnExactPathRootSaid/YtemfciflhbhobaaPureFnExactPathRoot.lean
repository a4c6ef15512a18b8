/- PathRoot answers as the reference's: the plain law behind FnExactPathRoot. No condition. -/
import Derived.Test.YtemfciflhbhobaaFLawsFnExactPathRoot
import Derived.Test.YtemfciflhbhobaaOpenK
import Derived.Test.YtemfciflhbhobaaQUp
namespace Go.Proofs.Ytemfciflhbhobaa.Pure
open Go.RowKit Go.Proofs.Ytemfciflhbhobaa.Opening Go.Proofs.Ytemfciflhbhobaa.B Go.Proofs.Ytemfciflhbhobaa.Q Go.Proofs.YtemfciflhbhobaaW.PrintWords Go.Proofs.YtemfciflhbhobaaW.PrintLast
set_option linter.unusedVariables false
set_option linter.unusedSimpArgs false
theorem pathRoot_at (k : Nat) (hk : 1099511627776 < k) (n i : Int) (s : ByteArray) (l : List LD) (h : l.length ≤ 9223372036854775807) : laws_FnExactPathRoot.f (k + 1) n i s l = some true := by
  unfold laws_FnExactPathRoot.f
  by_cases h1 : (s.size : Int) > 1048576
  · rw [if_pos h1]
  · rw [if_neg h1]
    obtain ⟨r, hr, hb⟩ := szDigs l 1048576 h (by omega) (by omega)
    refine bsu hr ?_
    by_cases h0 : r < 0
    · rw [if_pos h0]
    · have hl : l.length < 1099511627776 := by omega
      rw [if_neg h0]
      refine bsu (toDigs l (by omega) hl) (bsu (spec_pathRoot (by omega) n i s _ (by simpa using hl)) (bsu (toDigs l (by omega) hl) (bsu (impl_pathRoot (by omega) n i s _ (by simpa using hl)) ?_)))
      refine bsu (v := true) (by simp [laws_eqDigest.f]) ?_
      rw [if_pos rfl, bne_self_eq_false]
      simp only [laws_FnExactPathRoot.j0]
      rw [if_neg (by simp)]
      refine bsu (toDigs l (by omega) hl) (bsu (eqDigs _ (by simpa using (by omega : l.length < k)) (by simpa using hl)) ?_)
      rw [if_pos rfl]
theorem FnExactPathRoot (y0 y1 : Int) (y2 : ByteArray) (y3 : List LD) (h0 : (Lit.int .i64 y0).wf = true) (h1 : (Lit.int .i64 y1).wf = true) (h2 : y2.size ≤ 9223372036854775807) (h3 : y3.length ≤ 9223372036854775807 ∧ ∀ y_ ∈ y3, ok24 y_) : ∃ k, laws_FnExactPathRoot.f k y0 y1 y2 y3 = some true := ⟨1099511627777 + 1, pathRoot_at _ (by omega) y0 y1 y2 y3 h3.1⟩
end Go.Proofs.Ytemfciflhbhobaa.Pure
