/- PathCheck answers as the reference's: the plain law behind FnExactPathCheck. No condition. -/
import Derived.Test.YtemfciflhbhobaaFLawsFnExactPathCheck
import Derived.Test.YtemfciflhbhobaaOpenK
import Derived.Test.YtemfciflhbhobaaQUp
namespace Go.Proofs.Ytemfciflhbhobaa.Pure
open Go.RowKit Go.Proofs.Ytemfciflhbhobaa.Opening Go.Proofs.Ytemfciflhbhobaa.B Go.Proofs.Ytemfciflhbhobaa.Q Go.Proofs.YtemfciflhbhobaaW.PrintWords Go.Proofs.YtemfciflhbhobaaW.PrintLast
set_option linter.unusedVariables false
set_option linter.unusedSimpArgs false
theorem pathCheck_at (k : Nat) (hk : 1099511627776 < k) (p : Int × D4) (i : Int) (s : ByteArray) (l : List LD) (h : l.length ≤ 9223372036854775807) : laws_FnExactPathCheck.f (k + 1) p.1 p.2.1 p.2.2.1 p.2.2.2.1 p.2.2.2.2 i s l = some true := by
  unfold laws_FnExactPathCheck.f
  by_cases h1 : (s.size : Int) > 1048576
  · rw [if_pos h1]
  · rw [if_neg h1]
    obtain ⟨r, hr, hb⟩ := szDigs l 1048576 h (by omega) (by omega)
    refine bsu hr ?_
    by_cases h0 : r < 0
    · rw [if_pos h0]
    · have hl : l.length < 1099511627776 := by omega
      rw [if_neg h0]
      have ep : laws_toPoint.f p.1 p.2.1 p.2.2.1 p.2.2.2.1 p.2.2.2.2 = some p := rfl
      have es : ∀ P : List SD, P.length < 1099511627776 → ∃ b, spec_PathCheck.f (k + 1) p.1 p.2.1 p.2.2.1 p.2.2.2.1 p.2.2.2.2 i s P = some b ∧ impl_PathCheck.f (k + 1) p.1 p.2.1 p.2.2.1 p.2.2.2.1 p.2.2.2.2 i s P = some b := by
        intro P hP
        unfold spec_PathCheck.f impl_PathCheck.f
        rw [spec_pathRoot (by omega) p.1 i s P hP, impl_pathRoot (by omega) p.1 i s P hP]
        simp only [Option.bind_some]
        by_cases c : (pathRoot p.1 i s P).2 = true
        · rw [if_pos c]
          exact ⟨_, rfl, rfl⟩
        · rw [if_neg c]
          exact ⟨_, rfl, rfl⟩
      obtain ⟨b, e1, e2⟩ := es (l.map conv) (by simpa using hl)
      refine bsu ep (bsu (toDigs l (by omega) hl) (bsu e1 (bsu (toDigs l (by omega) hl) (bsu ep (bsu e2 ?_)))))
      rw [bne_self_eq_false, if_neg (by simp)]
      refine bsu (toDigs l (by omega) hl) (bsu (eqDigs _ (by simpa using (by omega : l.length < k + 1)) (by simpa using hl)) ?_)
      rw [if_pos rfl]
theorem FnExactPathCheck (y0 : S26) (y1 : Int) (y2 : ByteArray) (y3 : List LD) (h0 : ok26 y0) (h1 : (Lit.int .i64 y1).wf = true) (h2 : y2.size ≤ 9223372036854775807) (h3 : y3.length ≤ 9223372036854775807 ∧ ∀ y_ ∈ y3, ok24 y_) : ∃ k, laws_FnExactPathCheck.f k (y0.f0) (y0.f1.f0) (y0.f1.f1) (y0.f1.f2) (y0.f1.f3) y1 y2 y3 = some true := ⟨1099511627777 + 1, pathCheck_at _ (by omega) (y0.f0, y0.f1.f0, y0.f1.f1, y0.f1.f2, y0.f1.f3) y1 y2 y3 h3.1⟩
end Go.Proofs.Ytemfciflhbhobaa.Pure
