/- The laws' own copies of lists of texts, and the comparisons of them: a copy is the list itself, and equal lists are told equal. Conditions: lists of fewer than 2^40 elements. -/
import Derived.Test.YtflcbanemolkfaaZWBQList
import Derived.Test.YtflcbanemolkfaaZWBGLawS1
namespace Go.Proofs.Ytflcbanemolkfaa.Q
open Go.RowKit Go.Proofs.Ytflcbanemolkfaa.B Go.Proofs.YtflcbanemolkfaaW.PrintWords Go.Proofs.YtflcbanemolkfaaW.PrintLast Go.Proofs.YtflcbanemolkfaaW.PrintMore
theorem toStrs_l (n : Nat) : ∀ (k : Nat) (l : List ByteArray) (i : Nat), l.length = i + n → n < k → l.length < 1099511627776 →
    laws_toStringS.l0 k l ((l.take i).map id ++ List.replicate (l.length - i) (⟨#[]⟩ : ByteArray)) (i : Int) = some l := by
  induction n with
  | zero =>
    intro k l i hl hk hm
    obtain ⟨k, rfl⟩ : ∃ m, k = m + 1 := ⟨k - 1, by omega⟩
    simp only [laws_toStringS.l0]
    rw [if_neg (by omega), show l.length - i = 0 by omega, List.take_of_length_le (by omega)]
    simp
  | succ n ih =>
    intro k l i hl hk hm
    obtain ⟨k, rfl⟩ : ∃ m, k = m + 1 := ⟨k - 1, by omega⟩
    have hi : i < l.length := by omega
    simp only [laws_toStringS.l0]
    rw [if_pos (by omega), if_pos (by omega), if_pos (by simp; omega), rdOf_nat hi, show ((i : Nat) : Int).toNat = i from rfl, show l[i] = id l[i] from rfl, set_step l id _ i hi, step64 (by omega), ih k l (i + 1) (by omega) (by omega) hm]
theorem toStrs {k : Nat} (l : List ByteArray) (hk : l.length < k) (hm : l.length < 1099511627776) : laws_toStringS.f k l = some l := by
  unfold laws_toStringS.f
  rw [if_pos (by omega), if_pos (by simp; omega)]
  have := toStrs_l l.length k l 0 (by omega) hk hm
  simpa using this
theorem eqStrs_l (n : Nat) : ∀ (k : Nat) (l : List ByteArray) (i : Nat), l.length = i + n → n < k → l.length < 1099511627776 → laws_eqStringS.l0 k l l (i : Int) = some true := by
  induction n with
  | zero =>
    intro k l i hl hk hm
    obtain ⟨k, rfl⟩ : ∃ m, k = m + 1 := ⟨k - 1, by omega⟩
    simp only [laws_eqStringS.l0]
    rw [if_neg (by omega)]
  | succ n ih =>
    intro k l i hl hk hm
    obtain ⟨k, rfl⟩ : ∃ m, k = m + 1 := ⟨k - 1, by omega⟩
    simp only [laws_eqStringS.l0]
    rw [if_pos (by omega), if_pos (by omega), if_pos (by omega), if_pos trivial, step64 (by omega), ih k l (i + 1) (by omega) (by omega) hm]
theorem eqStrs {k : Nat} (l : List ByteArray) (hk : l.length < k) (hm : l.length < 1099511627776) : laws_eqStringS.f k l l = some true := by
  unfold laws_eqStringS.f
  rw [if_pos rfl]
  exact eqStrs_l l.length k l 0 (by omega) hk hm
theorem szStrs_l (n : Nat) : ∀ (k : Nat) (l : List ByteArray) (i : Nat) (left : Int), l.length = i + n → n < k → l.length < 1099511627776 → (∀ s ∈ l, s.size ≤ 9223372036854775807) → 0 ≤ left → left ≤ 1048576 →
    ∃ r, laws_szStringS.l0 k l left (i : Int) = some r ∧ (r < 0 ∨ (0 ≤ r ∧ r ≤ left)) := by
  induction n with
  | zero =>
    intro k l i left hl hk hm _ h0 h1
    obtain ⟨k, rfl⟩ : ∃ m, k = m + 1 := ⟨k - 1, by omega⟩
    simp only [laws_szStringS.l0]
    rw [if_neg (by omega)]
    exact ⟨left, rfl, .inr ⟨h0, Int.le_refl _⟩⟩
  | succ n ih =>
    intro k l i left hl hk hm hs h0 h1
    obtain ⟨k, rfl⟩ : ∃ m, k = m + 1 := ⟨k - 1, by omega⟩
    have hi : i < l.length := by omega
    have hsz := hs _ (List.getElem_mem hi)
    simp only [laws_szStringS.l0]
    rw [if_pos (by omega), if_pos (by omega), rdOf_nat hi, w64 (by omega) (by omega)]
    by_cases h : left - (l[i].size : Int) < 0
    · rw [if_pos h]
      exact ⟨-1, rfl, .inl (by omega)⟩
    · rw [if_neg h, step64 (by omega)]
      obtain ⟨r, hr, hb⟩ := ih k l (i + 1) (left - (l[i].size : Int)) (by omega) (by omega) hm hs (by omega) (by omega)
      exact ⟨r, hr, by omega⟩
theorem szStrs {k : Nat} (l : List ByteArray) (left : Int) (hk : 1048576 < k) (hl : l.length ≤ 9223372036854775807) (hs : ∀ s ∈ l, s.size ≤ 9223372036854775807) (h0 : 0 ≤ left) (h1 : left ≤ 1048576) :
    ∃ r, laws_szStringS.f k l left = some r ∧ (r < 0 ∨ (0 ≤ r ∧ r ≤ left ∧ l.length ≤ 1048576)) := by
  unfold laws_szStringS.f
  rw [w64 (by omega) (by omega)]
  by_cases h : left - (l.length : Int) < 0
  · rw [if_pos h]
    exact ⟨-1, rfl, .inl (by omega)⟩
  · rw [if_neg h]
    obtain ⟨r, hr, hb⟩ := szStrs_l l.length k l 0 (left - (l.length : Int)) (by omega) (by omega) (by omega) hs (by omega) (by omega)
    exact ⟨r, hr, by omega⟩
end Go.Proofs.Ytflcbanemolkfaa.Q
