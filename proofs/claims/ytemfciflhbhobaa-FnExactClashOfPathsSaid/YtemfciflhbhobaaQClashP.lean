/- ClashOfPaths as a plain function; the program's and the reference's come to it. No condition but fewer than 2^40 digests. -/
import Derived.Test.YtemfciflhbhobaaQRow
import Derived.Test.YtemfciflhbhobaaQFirst
import Derived.Test.YtemfciflhbhobaaFImplClashOfPaths
import Derived.Test.YtemfciflhbhobaaFSpecClashOfPaths
namespace Go.Proofs.Ytemfciflhbhobaa.Q
open Go.RowKit Go.Proofs.Ytemfciflhbhobaa.B Go.Proofs.YtemfciflhbhobaaW.PrintWords Go.Proofs.YtemfciflhbhobaaW.PrintLast Go.Proofs.YtemfciflhbhobaaW.PrintMore
set_option linter.unusedVariables false
set_option linter.unusedSimpArgs false
def neD (a b : D4) : Bool := !(a.1 == b.1) || (!(a.2.1 == b.2.1) || (!(a.2.2.1 == b.2.2.1) || (!(a.2.2.2 == b.2.2.2))))
def rowP (n i : Int) (s : ByteArray) (P : List SD) : List ByteArray := rowL i.toNat (way n.toNat i.toNat).reverse P s
def clashPaths (n i : Int) (s : ByteArray) (P : List SD) (t : ByteArray) (Q : List SD) : ByteArray × ByteArray × Bool :=
  if pathFits n i s P = true ∧ pathFits n i t Q = true ∧ neD (pathRoot n i s P).1 (pathRoot n i t Q).1 = false then first (rowP n i s P) (rowP n i t Q) else (⟨#[]⟩, ⟨#[]⟩, false)
theorem root_fits (n i : Int) (s : ByteArray) (P : List SD) : (pathRoot n i s P).2 = pathFits n i s P := by
  unfold pathRoot
  by_cases c : pathFits n i s P = true
  · rw [if_pos c, c]
  · rw [if_neg c]
    exact (Bool.eq_false_iff.mpr c).symm
theorem row_is {n i : Int} {s : ByteArray} {P : List SD} (c : pathFits n i s P = true) : clashRow n i s P = (rowP n i s P, true) := by
  unfold clashRow
  rw [if_pos c]
  rfl
theorem rowP_len {n i : Int} {s : ByteArray} {P : List SD} (c : pathFits n i s P = true) : (rowP n i s P).length ≤ 300 := by
  have := clashRow_len n i s P
  rw [row_is c] at this
  exact this
theorem spec_downP {k : Nat} (hk : 60002 < k) {n i : Int} {s : ByteArray} {P : List SD} (c : pathFits n i s P = true) : spec_l4Down.f k n i s P = some (rowP n i s P) := by
  obtain ⟨a, b, rfl, rfl, h1, h2, h3, h4, h5⟩ := fits_is c
  unfold rowP
  rw [Int.toNat_natCast, Int.toNat_natCast]
  exact down_l s (by omega) a k b 0 a P (by omega) (by omega) h3 (by omega) h5 (by omega)
theorem impl_clashPaths {k : Nat} (hk : 70002 < k) (n i : Int) (s : ByteArray) (P : List SD) (t : ByteArray) (Q : List SD) (hP : P.length < 1099511627776) (hQ : Q.length < 1099511627776) : impl_ClashOfPaths.f (k + 1) n i s P t Q = some (clashPaths n i s P t Q) := by
  unfold impl_ClashOfPaths.f
  refine bsu (impl_pathRoot (by omega) n i s P hP) (bsu (impl_pathRoot (by omega) n i t Q hQ) ?_)
  show (if (pathRoot n i s P).2 = true then (if (pathRoot n i t Q).2 = true then impl_ClashOfPaths.j0 (k + 1) n i s P t Q (neD (pathRoot n i s P).1 (pathRoot n i t Q).1) else impl_ClashOfPaths.j0 (k + 1) n i s P t Q true) else impl_ClashOfPaths.j0 (k + 1) n i s P t Q true) = _
  rw [root_fits, root_fits]
  unfold clashPaths
  by_cases c1 : pathFits n i s P = true
  · rw [if_pos c1]
    by_cases c2 : pathFits n i t Q = true
    · rw [if_pos c2]
      cases c3 : neD (pathRoot n i s P).1 (pathRoot n i t Q).1 with
      | false =>
        rw [if_pos ⟨c1, c2, rfl⟩]
        simp only [impl_ClashOfPaths.j0]
        rw [if_neg (by simp)]
        have e1 : impl_ClashRow.f k n i s P = some (rowP n i s P, true) := by rw [impl_clashRow (by omega), row_is c1]
        have e2 : impl_ClashRow.f k n i t Q = some (rowP n i t Q, true) := by rw [impl_clashRow (by omega), row_is c2]
        have h1 := rowP_len c1
        exact bsu e1 (bsu e2 (bsu (impl_first _ _ (by dsimp only; omega) (by dsimp only; omega)) rfl))
      | true =>
        rw [if_neg (fun h => Bool.noConfusion h.2.2)]
        simp only [impl_ClashOfPaths.j0]
        rw [if_pos trivial]
    · rw [if_neg c2, if_neg (fun h => c2 h.2.1)]
      simp only [impl_ClashOfPaths.j0]
      rw [if_pos trivial]
  · rw [if_neg c1, if_neg (fun h => c1 h.1)]
    simp only [impl_ClashOfPaths.j0]
    rw [if_pos trivial]
theorem spec_clashPaths {k : Nat} (hk : 70002 < k) (n i : Int) (s : ByteArray) (P : List SD) (t : ByteArray) (Q : List SD) (hP : P.length < 1099511627776) (hQ : Q.length < 1099511627776) : spec_ClashOfPaths.f (k + 1) n i s P t Q = some (clashPaths n i s P t Q) := by
  unfold spec_ClashOfPaths.f
  refine bsu (spec_pathRoot' (by omega) n i s P hP) (bsu (spec_pathRoot' (by omega) n i t Q hQ) ?_)
  show (if (pathRoot n i s P).2 = true then (if (pathRoot n i t Q).2 = true then spec_ClashOfPaths.j0 (k + 1) n i s P t Q (neD (pathRoot n i s P).1 (pathRoot n i t Q).1) else spec_ClashOfPaths.j0 (k + 1) n i s P t Q true) else spec_ClashOfPaths.j0 (k + 1) n i s P t Q true) = _
  rw [root_fits, root_fits]
  unfold clashPaths
  by_cases c1 : pathFits n i s P = true
  · rw [if_pos c1]
    by_cases c2 : pathFits n i t Q = true
    · rw [if_pos c2]
      cases c3 : neD (pathRoot n i s P).1 (pathRoot n i t Q).1 with
      | false =>
        rw [if_pos ⟨c1, c2, rfl⟩]
        simp only [spec_ClashOfPaths.j0]
        rw [if_neg (by simp)]
        have h1 := rowP_len c1
        exact bsu (spec_downP (by omega) c1) (bsu (spec_downP (by omega) c2) (bsu (spec_first _ _ (by omega) (by omega)) rfl))
      | true =>
        rw [if_neg (fun h => Bool.noConfusion h.2.2)]
        simp only [spec_ClashOfPaths.j0]
        rw [if_pos trivial]
    · rw [if_neg c2, if_neg (fun h => c2 h.2.1)]
      simp only [spec_ClashOfPaths.j0]
      rw [if_pos trivial]
  · rw [if_neg c1, if_neg (fun h => c1 h.1)]
    simp only [spec_ClashOfPaths.j0]
    rw [if_pos trivial]
end Go.Proofs.Ytemfciflhbhobaa.Q
