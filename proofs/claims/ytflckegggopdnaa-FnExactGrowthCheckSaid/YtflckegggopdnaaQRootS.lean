/- The root of a tree is the pair of its halves' roots; leaves that are ok fit. Condition: at most 256 leaves. -/
import Derived.Test.YtflckegggopdnaaQTree
import Derived.Test.YtflckegggopdnaaQLeaves
import Derived.Test.YtflckegggopdnaaQList
import Derived.Test.YtflckegggopdnaaHCopiedD
namespace Go.Proofs.Ytflckegggopdnaa.Q
open Go.RowKit Go.Proofs.Ytflckegggopdnaa.B Go.Proofs.YtflckegggopdnaaW.PrintWords Go.Proofs.YtflckegggopdnaaW.PrintLast Go.Proofs.YtflckegggopdnaaW.PrintMore
set_option linter.unusedVariables false
set_option linter.unusedSimpArgs false
def toSD (d : D4) : SD := ⟨d.1, d.2.1, d.2.2.1, d.2.2.2⟩
theorem copiedD {l : List SD} (h : l.length ≤ 1000000) : impl_Digest.f l = some l := by
  unfold impl_Digest.f
  rw [if_pos (by omega)]
theorem leaves_fit {l : List ByteArray} (c : leavesOk l = true) : l.length ≤ 256 ∧ ∀ s ∈ l, s.size ≤ 4611686018427387904 := by
  simp only [leavesOk, Bool.and_eq_true, decide_eq_true_eq, List.all_eq_true] at c
  exact ⟨c.1, fun s hs => Nat.le_trans (c.2 s hs) (by omega)⟩
theorem rootF_fuel (f : Nat) : ∀ (g : Nat) (l : List ByteArray), l.length ≤ f → f ≤ g → l.length ≤ 256 → rootF g l = rootF f l := by
  induction f with
  | zero =>
    intro g l h _ _
    obtain rfl : l = [] := List.eq_nil_of_length_eq_zero (by omega)
    cases g <;> rfl
  | succ f ih =>
    intro g l h hg h2
    obtain ⟨g, rfl⟩ : ∃ m, g = m + 1 := ⟨g - 1, by omega⟩
    match l, h, h2 with
    | [], _, _ => rfl
    | [s], _, _ => rfl
    | a :: b :: l, h, h2 =>
      simp only [List.length_cons] at h h2
      have hs := spl_lt (n := l.length + 2) (by omega) (by omega)
      simp only [rootF]
      rw [ih g _ (by rw [List.length_take, List.length_cons, List.length_cons]; omega) (by omega) (by rw [List.length_take, List.length_cons, List.length_cons]; omega),
        ih g _ (by rw [List.length_drop, List.length_cons, List.length_cons]; omega) (by omega) (by rw [List.length_drop, List.length_cons, List.length_cons]; omega)]
theorem root_nil : root [] = hashOf ⟨#[]⟩ := rfl
theorem root_one (s : ByteArray) : root [s] = hashLeaf s := rfl
theorem root_split {l : List ByteArray} (h0 : 2 ≤ l.length) (h1 : l.length ≤ 256) : root l = hashPair (root (l.take (spl l.length))) (root (l.drop (spl l.length))) := by
  match l, h0, h1 with
  | a :: b :: l, _, h1 =>
    simp only [List.length_cons] at h1
    have hs := spl_lt (n := l.length + 2) (by omega) (by omega)
    have e1 : (a :: b :: l).length = l.length + 2 := by simp
    unfold root
    rw [e1]
    have e2 : rootF 256 (a :: b :: l) = hashPair (rootF 255 ((a :: b :: l).take (spl (l.length + 2)))) (rootF 255 ((a :: b :: l).drop (spl (l.length + 2)))) := rfl
    rw [e2, rootF_fuel 255 256 ((a :: b :: l).take (spl (l.length + 2))) (by rw [List.length_take, e1]; omega) (by omega) (by rw [List.length_take, e1]; omega),
      rootF_fuel 255 256 ((a :: b :: l).drop (spl (l.length + 2))) (by rw [List.length_drop, e1]; omega) (by omega) (by rw [List.length_drop, e1]; omega)]
end Go.Proofs.Ytflckegggopdnaa.Q
