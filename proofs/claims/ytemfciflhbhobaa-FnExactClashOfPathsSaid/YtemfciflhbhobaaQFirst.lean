/- ClashFirst as a plain function: the program's and the reference's come to it. Condition: fewer than 2^40 texts. -/
import Derived.Test.YtemfciflhbhobaaQList
import Derived.Test.YtemfciflhbhobaaGFirst1
namespace Go.Proofs.Ytemfciflhbhobaa.Q
open Go.RowKit Go.Proofs.Ytemfciflhbhobaa.B Go.Proofs.YtemfciflhbhobaaW.PrintWords Go.Proofs.YtemfciflhbhobaaW.PrintLast Go.Proofs.YtemfciflhbhobaaW.PrintMore
def first : List ByteArray → List ByteArray → ByteArray × ByteArray × Bool
  | a :: l, b :: m => if a.toList = b.toList then first l m else (a, b, true)
  | _, _ => (⟨#[]⟩, ⟨#[]⟩, false)
theorem first_nil_r (l : List ByteArray) : first l [] = (⟨#[]⟩, ⟨#[]⟩, false) := by cases l <;> rfl
theorem first_nil_l (l : List ByteArray) : first [] l = (⟨#[]⟩, ⟨#[]⟩, false) := by cases l <;> rfl
theorem spec_first_l (n : Nat) : ∀ (k : Nat) (l m : List ByteArray) (i : Nat), l.length = i + n → 2 * n + 2 < k → l.length < 1099511627776 → spec_ClashFirst.l0 k l m (i : Int) = some (first (l.drop i) (m.drop i)) := by
  induction n with
  | zero =>
    intro k l m i hl hk hm
    obtain ⟨k, rfl⟩ : ∃ m, k = m + 2 := ⟨k - 2, by omega⟩
    simp only [spec_ClashFirst.l0, spec_ClashFirst.j1]
    rw [if_neg (by omega), List.drop_of_length_le (by omega), first_nil_l]
    rfl
  | succ n ih =>
    intro k l m i hl hk hm
    obtain ⟨k, rfl⟩ : ∃ m, k = m + 2 := ⟨k - 2, by omega⟩
    have hi : i < l.length := by omega
    simp only [spec_ClashFirst.l0, spec_ClashFirst.j1]
    rw [if_pos (by omega)]
    by_cases hj : i < m.length
    · rw [if_pos (by simp; omega), if_pos (by omega), if_pos (by omega), rdOf_nat hi, rdOf_nat hj, step64 (by omega), List.drop_eq_getElem_cons hi, List.drop_eq_getElem_cons hj, ih k l m (i + 1) (by omega) (by omega) hm]
      simp only [first]
      rw [if_pos (show ((i : Nat) : Int) < (m.length : Int) by omega)]
      split <;> rfl
    · rw [if_neg (by simp; omega), List.drop_of_length_le (by omega : m.length ≤ i), first_nil_r]
theorem impl_first_l (n : Nat) : ∀ (k : Nat) (l m : List ByteArray) (i : Nat), l.length = i + n → 2 * n + 2 < k → l.length < 1099511627776 → impl_ClashFirst.l0 k l m (i : Int) = some (first (l.drop i) (m.drop i)) := by
  induction n with
  | zero =>
    intro k l m i hl hk hm
    obtain ⟨k, rfl⟩ : ∃ m, k = m + 2 := ⟨k - 2, by omega⟩
    simp only [impl_ClashFirst.l0, impl_ClashFirst.j1]
    rw [if_neg (by omega), List.drop_of_length_le (by omega), first_nil_l]
    rfl
  | succ n ih =>
    intro k l m i hl hk hm
    obtain ⟨k, rfl⟩ : ∃ m, k = m + 2 := ⟨k - 2, by omega⟩
    have hi : i < l.length := by omega
    simp only [impl_ClashFirst.l0, impl_ClashFirst.j1]
    rw [if_pos (by omega)]
    by_cases hj : i < m.length
    · rw [if_pos (by simp; omega), if_pos (by omega), if_pos (by omega), rdOf_nat hi, rdOf_nat hj, step64 (by omega), List.drop_eq_getElem_cons hi, List.drop_eq_getElem_cons hj, ih k l m (i + 1) (by omega) (by omega) hm]
      simp only [first]
      rw [if_pos (show ((i : Nat) : Int) < (m.length : Int) by omega)]
      split <;> rfl
    · rw [if_neg (by simp; omega), List.drop_of_length_le (by omega : m.length ≤ i), first_nil_r]
theorem spec_first {k : Nat} (l m : List ByteArray) (hk : 2 * l.length + 2 < k) (hm : l.length < 1099511627776) : spec_ClashFirst.f k l m = some (first l m) := by
  unfold spec_ClashFirst.f
  have := spec_first_l l.length k l m 0 (by omega) hk hm
  simpa using this
theorem impl_first {k : Nat} (l m : List ByteArray) (hk : 2 * l.length + 2 < k) (hm : l.length < 1099511627776) : impl_ClashFirst.f k l m = some (first l m) := by
  unfold impl_ClashFirst.f
  have := impl_first_l l.length k l m 0 (by omega) hk hm
  simpa using this
end Go.Proofs.Ytemfciflhbhobaa.Q
