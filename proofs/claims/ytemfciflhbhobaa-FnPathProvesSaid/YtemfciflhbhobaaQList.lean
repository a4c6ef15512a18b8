/- The laws' own copies of lists, and the comparisons of them: a copy is the list itself, and equal lists are told equal. Conditions: lists of fewer than 2^40 elements. -/
import Derived.Test.YtemfciflhbhobaaQSplit
import Derived.Test.YtemfciflhbhobaaGLawS1
import Derived.Test.YtemfciflhbhobaaGLawD1
namespace Go.Proofs.Ytemfciflhbhobaa.Q
open Go.RowKit Go.Proofs.Ytemfciflhbhobaa.B Go.Proofs.YtemfciflhbhobaaW.PrintWords Go.Proofs.YtemfciflhbhobaaW.PrintLast Go.Proofs.YtemfciflhbhobaaW.PrintMore
abbrev SD := S29
abbrev LD := S24
/-- Bounds of a small place. -/
theorem step64 {i : Nat} (h : i < 4611686018427387904) : wrap64 ((i : Int) + 1) = ((i + 1 : Nat) : Int) := by unfold wrap64; omega
theorem set_step {α β : Type} (l : List α) (f : α → β) (z : β) (i : Nat) (h : i < l.length) : ((l.take i).map f ++ List.replicate (l.length - i) z).set i (f l[i]) = (l.take (i + 1)).map f ++ List.replicate (l.length - (i + 1)) z := by
  rw [List.set_append_right _ _ (by simp; omega)]
  have e1 : i - ((l.take i).map f).length = 0 := by simp; omega
  have e2 : l.length - i = (l.length - (i + 1)) + 1 := by omega
  rw [e1, e2, List.replicate_succ, List.set_cons_zero, List.take_succ_eq_append_getElem h, List.map_append, List.append_assoc]
  rfl

theorem rdOf_nat {l : List ByteArray} {i : Nat} (h : i < l.length) : rdOf ByteArray.empty l (i : Int) = l[i] := by simp [rdOf, List.getD, List.getElem?_eq_getElem h]
theorem toStrs_l (n : Nat) : ∀ (k : Nat) (l : List ByteArray) (i : Nat), l.length = i + n → n < k → l.length < 1099511627776 →
    laws_toStringS.l0 k l ((l.take i).map id ++ List.replicate (l.length - i) (⟨#[]⟩ : ByteArray)) (i : Int) = some l := by
  induction n with
  | zero =>
    intro k l i hl hk hm
    obtain ⟨k, rfl⟩ : ∃ m, k = m + 1 := ⟨k - 1, by omega⟩
    simp only [laws_toStringS.l0]
    rw [if_neg (by omega), show l.length - i = 0 by omega, List.take_of_length_le (by omega)]
    simp
  | succ n ih =>
    intro k l i hl hk hm
    obtain ⟨k, rfl⟩ : ∃ m, k = m + 1 := ⟨k - 1, by omega⟩
    have hi : i < l.length := by omega
    simp only [laws_toStringS.l0]
    rw [if_pos (by omega), if_pos (by omega), if_pos (by simp; omega), rdOf_nat hi, show ((i : Nat) : Int).toNat = i from rfl, show l[i] = id l[i] from rfl, set_step l id _ i hi, step64 (by omega), ih k l (i + 1) (by omega) (by omega) hm]
theorem toStrs {k : Nat} (l : List ByteArray) (hk : l.length < k) (hm : l.length < 1099511627776) : laws_toStringS.f k l = some l := by
  unfold laws_toStringS.f
  rw [if_pos (by omega), if_pos (by simp; omega)]
  have := toStrs_l l.length k l 0 (by omega) hk hm
  simpa using this
theorem eqStrs_l (n : Nat) : ∀ (k : Nat) (l : List ByteArray) (i : Nat), l.length = i + n → n < k → l.length < 1099511627776 → laws_eqStringS.l0 k l l (i : Int) = some true := by
  induction n with
  | zero =>
    intro k l i hl hk hm
    obtain ⟨k, rfl⟩ : ∃ m, k = m + 1 := ⟨k - 1, by omega⟩
    simp only [laws_eqStringS.l0]
    rw [if_neg (by omega)]
  | succ n ih =>
    intro k l i hl hk hm
    obtain ⟨k, rfl⟩ : ∃ m, k = m + 1 := ⟨k - 1, by omega⟩
    simp only [laws_eqStringS.l0]
    rw [if_pos (by omega), if_pos (by omega), if_pos (by omega), if_pos trivial, step64 (by omega), ih k l (i + 1) (by omega) (by omega) hm]
theorem eqStrs {k : Nat} (l : List ByteArray) (hk : l.length < k) (hm : l.length < 1099511627776) : laws_eqStringS.f k l l = some true := by
  unfold laws_eqStringS.f
  rw [if_pos rfl]
  exact eqStrs_l l.length k l 0 (by omega) hk hm
/-- What the laws' measure of texts tells: less than 0, or what is left. -/
theorem szStrs_l (n : Nat) : ∀ (k : Nat) (l : List ByteArray) (i : Nat) (left : Int), l.length = i + n → n < k → l.length < 1099511627776 → (∀ s ∈ l, s.size ≤ 9223372036854775807) → 0 ≤ left → left ≤ 1048576 →
    ∃ r, laws_szStringS.l0 k l left (i : Int) = some r ∧ (r < 0 ∨ (0 ≤ r ∧ r ≤ left)) := by
  induction n with
  | zero =>
    intro k l i left hl hk hm _ h0 h1
    obtain ⟨k, rfl⟩ : ∃ m, k = m + 1 := ⟨k - 1, by omega⟩
    simp only [laws_szStringS.l0]
    rw [if_neg (by omega)]
    exact ⟨left, rfl, .inr ⟨h0, Int.le_refl _⟩⟩
  | succ n ih =>
    intro k l i left hl hk hm hs h0 h1
    obtain ⟨k, rfl⟩ : ∃ m, k = m + 1 := ⟨k - 1, by omega⟩
    have hi : i < l.length := by omega
    have hsz := hs _ (List.getElem_mem hi)
    simp only [laws_szStringS.l0]
    rw [if_pos (by omega), if_pos (by omega), rdOf_nat hi, w64 (by omega) (by omega)]
    by_cases h : left - (l[i].size : Int) < 0
    · rw [if_pos h]
      exact ⟨-1, rfl, .inl (by omega)⟩
    · rw [if_neg h, step64 (by omega)]
      obtain ⟨r, hr, hb⟩ := ih k l (i + 1) (left - (l[i].size : Int)) (by omega) (by omega) hm hs (by omega) (by omega)
      exact ⟨r, hr, by omega⟩
theorem szStrs {k : Nat} (l : List ByteArray) (left : Int) (hk : 1048576 < k) (hl : l.length ≤ 9223372036854775807) (hs : ∀ s ∈ l, s.size ≤ 9223372036854775807) (h0 : 0 ≤ left) (h1 : left ≤ 1048576) :
    ∃ r, laws_szStringS.f k l left = some r ∧ (r < 0 ∨ (0 ≤ r ∧ r ≤ left ∧ l.length ≤ 1048576)) := by
  unfold laws_szStringS.f
  rw [w64 (by omega) (by omega)]
  by_cases h : left - (l.length : Int) < 0
  · rw [if_pos h]
    exact ⟨-1, rfl, .inl (by omega)⟩
  · rw [if_neg h]
    obtain ⟨r, hr, hb⟩ := szStrs_l l.length k l 0 (left - (l.length : Int)) (by omega) (by omega) (by omega) hs (by omega) (by omega)
    exact ⟨r, hr, by omega⟩

/-! Lists of digests -/
def conv (d : LD) : SD := ⟨d.f0, d.f1, d.f2, d.f3⟩
theorem toDigs_l (n : Nat) : ∀ (k : Nat) (l : List LD) (i : Nat), l.length = i + n → n < k → l.length < 1099511627776 →
    laws_toDigestS.l0 k l ((l.take i).map conv ++ List.replicate (l.length - i) z29) (i : Int) = some (l.map conv) := by
  induction n with
  | zero =>
    intro k l i hl hk hm
    obtain ⟨k, rfl⟩ : ∃ m, k = m + 1 := ⟨k - 1, by omega⟩
    simp only [laws_toDigestS.l0]
    rw [if_neg (by omega), show l.length - i = 0 by omega, List.take_of_length_le (by omega)]
    simp
  | succ n ih =>
    intro k l i hl hk hm
    obtain ⟨k, rfl⟩ : ∃ m, k = m + 1 := ⟨k - 1, by omega⟩
    have hi : i < l.length := by omega
    simp only [laws_toDigestS.l0]
    unfold laws_toDigest.f
    rw [if_pos (by omega), if_pos (by omega)]
    simp only [Option.bind_some]
    have e : rd_T24 l (i : Int) = l[i] := by simp [rd_T24, List.getD, List.getElem?_eq_getElem hi]
    rw [if_pos (by simp; omega), e, show ((i : Nat) : Int).toNat = i from rfl, show (⟨l[i].f0, l[i].f1, l[i].f2, l[i].f3⟩ : SD) = conv l[i] from rfl, set_step l conv _ i hi, step64 (by omega), ih k l (i + 1) (by omega) (by omega) hm]
theorem toDigs {k : Nat} (l : List LD) (hk : l.length < k) (hm : l.length < 1099511627776) : laws_toDigestS.f k l = some (l.map conv) := by
  unfold laws_toDigestS.f
  rw [if_pos (by omega), if_pos (by simp; omega)]
  have := toDigs_l l.length k l 0 (by omega) hk hm
  simpa using this
theorem eqDigs_l (n : Nat) : ∀ (k : Nat) (l : List SD) (i : Nat), l.length = i + n → n < k → l.length < 1099511627776 → laws_eqDigestS.l0 k l l (i : Int) = some true := by
  induction n with
  | zero =>
    intro k l i hl hk hm
    obtain ⟨k, rfl⟩ : ∃ m, k = m + 1 := ⟨k - 1, by omega⟩
    simp only [laws_eqDigestS.l0]
    rw [if_neg (by omega)]
  | succ n ih =>
    intro k l i hl hk hm
    obtain ⟨k, rfl⟩ : ∃ m, k = m + 1 := ⟨k - 1, by omega⟩
    simp only [laws_eqDigestS.l0]
    unfold laws_eqDigest.f
    rw [if_pos (by omega), if_pos (by omega), if_pos (by omega)]
    simp only [if_true, Option.bind_some]
    rw [step64 (by omega), ih k l (i + 1) (by omega) (by omega) hm]
theorem eqDigs {k : Nat} (l : List SD) (hk : l.length < k) (hm : l.length < 1099511627776) : laws_eqDigestS.f k l l = some true := by
  unfold laws_eqDigestS.f
  rw [if_pos rfl]
  exact eqDigs_l l.length k l 0 (by omega) hk hm
theorem szDigs (l : List LD) (left : Int) (hl : l.length ≤ 9223372036854775807) (h0 : 0 ≤ left) (h1 : left ≤ 1048576) :
    ∃ r, laws_szDigestS.f l left = some r ∧ (r < 0 ∨ (0 ≤ r ∧ r ≤ left ∧ l.length ≤ 1048576)) := by
  unfold laws_szDigestS.f
  rw [w64 (by omega) (by omega)]
  by_cases h : left - (l.length : Int) < 0
  · rw [if_pos h]
    exact ⟨-1, rfl, .inl (by omega)⟩
  · rw [if_neg h]
    exact ⟨_, rfl, .inr (by omega)⟩
end Go.Proofs.Ytemfciflhbhobaa.Q
