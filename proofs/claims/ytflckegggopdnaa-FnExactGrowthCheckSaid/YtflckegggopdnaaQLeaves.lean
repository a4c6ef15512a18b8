/- LeavesOk as a plain function: the program's and the reference's come to it. Condition: fewer than 2^40 leaves. -/
import Derived.Test.YtflckegggopdnaaQList
import Derived.Test.YtflckegggopdnaaGTree1
namespace Go.Proofs.Ytflckegggopdnaa.Q
open Go.RowKit Go.Proofs.Ytflckegggopdnaa.B Go.Proofs.YtflckegggopdnaaW.PrintWords Go.Proofs.YtflckegggopdnaaW.PrintLast Go.Proofs.YtflckegggopdnaaW.PrintMore
def leavesOk (l : List ByteArray) : Bool := decide (l.length ≤ 256) && l.all fun s => decide (s.size ≤ 40)
theorem drop_all {l : List ByteArray} {i : Nat} (p : ByteArray → Bool) (h : i < l.length) : (l.drop i).all p = (p l[i] && (l.drop (i + 1)).all p) := by
  rw [List.drop_eq_getElem_cons h, List.all_cons]
theorem spec_leaves_l (n : Nat) : ∀ (k : Nat) (l : List ByteArray) (i : Nat), l.length = i + n → n < k → l.length < 1099511627776 → spec_LeavesOk.l0 k l (i : Int) = some ((l.drop i).all fun s => decide (s.size ≤ 40)) := by
  induction n with
  | zero =>
    intro k l i hl hk hm
    obtain ⟨k, rfl⟩ : ∃ m, k = m + 1 := ⟨k - 1, by omega⟩
    simp only [spec_LeavesOk.l0]
    rw [if_neg (by omega), List.drop_of_length_le (by omega)]
    rfl
  | succ n ih =>
    intro k l i hl hk hm
    obtain ⟨k, rfl⟩ : ∃ m, k = m + 1 := ⟨k - 1, by omega⟩
    have hi : i < l.length := by omega
    simp only [spec_LeavesOk.l0]
    rw [if_pos (by omega), if_pos (by omega), rdOf_nat hi, step64 (by omega), drop_all _ hi]
    by_cases h : (l[i].size : Int) > 40
    · rw [if_pos h, show decide (l[i].size ≤ 40) = false from by simp; omega, Bool.false_and]
    · rw [if_neg h, ih k l (i + 1) (by omega) (by omega) hm, show decide (l[i].size ≤ 40) = true from by simp; omega, Bool.true_and]
theorem spec_leaves {k : Nat} (l : List ByteArray) (hk : l.length < k) (hm : l.length < 1099511627776) : spec_LeavesOk.f k l = some (leavesOk l) := by
  unfold spec_LeavesOk.f leavesOk
  by_cases h : (l.length : Int) > 256
  · rw [if_pos h, show decide (l.length ≤ 256) = false from by simp; omega, Bool.false_and]
  · rw [if_neg h, show decide (l.length ≤ 256) = true from by simp; omega, Bool.true_and]
    have := spec_leaves_l l.length k l 0 (by omega) hk hm
    simpa using this
theorem impl_leaves_l (n : Nat) : ∀ (k : Nat) (l : List ByteArray) (i : Nat), l.length = i + n → n < k → l.length < 1099511627776 → impl_LeavesOk.l0 k l l (l.length : Int) (i : Int) = some (decide (l.length ≤ 256) && (l.drop i).all fun s => decide (s.size ≤ 40)) := by
  induction n with
  | zero =>
    intro k l i hl hk hm
    obtain ⟨k, rfl⟩ : ∃ m, k = m + 1 := ⟨k - 1, by omega⟩
    simp only [impl_LeavesOk.l0]
    have e : decide ((l.length : Int) ≤ 256) = decide (l.length ≤ 256) := by rw [Bool.eq_iff_iff]; simp; omega
    rw [if_neg (by omega), List.drop_of_length_le (by omega), e, List.all_nil, Bool.and_true]
  | succ n ih =>
    intro k l i hl hk hm
    obtain ⟨k, rfl⟩ : ∃ m, k = m + 1 := ⟨k - 1, by omega⟩
    have hi : i < l.length := by omega
    simp only [impl_LeavesOk.l0]
    rw [if_pos (by omega), if_pos (by omega), if_pos (by omega), rdOf_nat hi, step64 (by omega), drop_all _ hi]
    by_cases h : (l[i].size : Int) > 40
    · rw [if_pos h, show decide (l[i].size ≤ 40) = false from by simp; omega, Bool.false_and, Bool.and_false]
    · rw [if_neg h, ih k l (i + 1) (by omega) (by omega) hm, show decide (l[i].size ≤ 40) = true from by simp; omega, Bool.true_and]
theorem impl_leaves {k : Nat} (l : List ByteArray) (hk : l.length < k) (hm : l.length < 1099511627776) : impl_LeavesOk.f k l = some (leavesOk l) := by
  unfold impl_LeavesOk.f leavesOk
  have := impl_leaves_l l.length k l 0 (by omega) hk hm
  simpa using this
end Go.Proofs.Ytflckegggopdnaa.Q
