/- The laws' marking of a list of texts and the look whether the marks still stand: they do, and the look tells the same number. Condition: fewer than 2^40 texts. -/
import Derived.Test.YtemfciflhbhobaaQMarkS
namespace Go.Proofs.Ytemfciflhbhobaa.Q
open Go.RowKit Go.Proofs.Ytemfciflhbhobaa.B Go.Proofs.YtemfciflhbhobaaW.PrintWords Go.Proofs.YtemfciflhbhobaaW.PrintLast Go.Proofs.YtemfciflhbhobaaW.PrintMore
/-- The mark of a text is the same whatever the bound on rounds. -/
theorem markText_same {k : Nat} {x : Int} {r : ByteArray} (h : laws_markText.f 40 x = some r) (hk : 40 ≤ k) : laws_markText.f k x = some r := by
  induction k with
  | zero => omega
  | succ k ih =>
    rcases Nat.eq_or_lt_of_le hk with e | e
    · rw [← e]; exact h
    · exact laws_markText.mono x k _ (ih (by omega))
theorem markText_is (x : Int) (h1 : x < 9223372036854775807) : ∃ r, ∀ k, 40 ≤ k → laws_markText.f k x = some r := by
  obtain ⟨r, h⟩ := markText_some (k := 40) (by omega) x h1
  exact ⟨r, fun k hk => markText_same h hk⟩
theorem markStrsF_l (n : Nat) : ∀ (k : Nat) (l : List ByteArray) (i : Nat) (a : Int), l.length = i + n → n + 50 < k → l.length < 1099511627776 → 0 ≤ a → a + n < 4611686018427387904 →
    ∃ l', laws_markStringS.l0 k l a (i : Int) = some (a + n, l') ∧ l'.length = l.length ∧ (∀ j, j < i → l'[j]? = l[j]?) ∧ ∀ j, j < n → ∃ s, l'[i + j]? = some s ∧ ∀ q, 40 ≤ q → laws_markText.f q (a + j) = some s := by
  induction n with
  | zero =>
    intro k l i a hl hk hm h0 h1
    obtain ⟨k, rfl⟩ : ∃ m, k = m + 1 := ⟨k - 1, by omega⟩
    simp only [laws_markStringS.l0]
    rw [if_neg (by omega)]
    exact ⟨l, by simp, rfl, fun _ _ => rfl, fun j hj => by omega⟩
  | succ n ih =>
    intro k l i a hl hk hm h0 h1
    obtain ⟨k, rfl⟩ : ∃ m, k = m + 1 := ⟨k - 1, by omega⟩
    have hi : i < l.length := by omega
    obtain ⟨r, hr⟩ := markText_is a (by omega)
    obtain ⟨l', h, h2, h3, h4⟩ := ih k (l.set i r) (i + 1) (a + 1) (by simp; omega) (by omega) (by simpa using hm) (by omega) (by omega)
    refine ⟨l', ?_, by simpa using h2, fun j hj => ?_, fun j hj => ?_⟩
    · simp only [laws_markStringS.l0]
      rw [if_pos (by omega)]
      refine bsm (hr k (by omega)) ?_
      rw [if_pos (by omega), show ((i : Nat) : Int).toNat = i from rfl, show wrap64 (a + 1) = a + 1 by unfold wrap64; omega, step64 (by omega), h]
      refine congrArg some (Prod.ext ?_ rfl)
      show a + 1 + (n : Int) = a + ((n + 1 : Nat) : Int)
      omega
    · rw [h3 j (by omega), List.getElem?_set_ne (by omega)]
    · cases j with
      | zero =>
        refine ⟨r, ?_, fun q hq => by simpa using hr q hq⟩
        rw [Nat.add_zero, h3 i (by omega), List.getElem?_set_self hi]
      | succ j =>
        obtain ⟨s, h5, h6⟩ := h4 j (by omega)
        refine ⟨s, by rw [show i + (j + 1) = i + 1 + j by omega]; exact h5, fun q hq => ?_⟩
        rw [show a + ((j + 1 : Nat) : Int) = a + 1 + (j : Int) by omega]
        exact h6 q hq
theorem heldStrs_l (n : Nat) : ∀ (k : Nat) (l : List ByteArray) (i : Nat) (a : Int), l.length = i + n → n + 50 < k → l.length < 1099511627776 → 0 ≤ a → a + n < 4611686018427387904 →
    (∀ j, j < n → ∃ s, l[i + j]? = some s ∧ ∀ q, 40 ≤ q → laws_markText.f q (a + j) = some s) → laws_heldStringS.l0 k l a (i : Int) = some (a + n) := by
  induction n with
  | zero =>
    intro k l i a hl hk hm h0 h1 _
    obtain ⟨k, rfl⟩ : ∃ m, k = m + 1 := ⟨k - 1, by omega⟩
    simp only [laws_heldStringS.l0]
    rw [if_neg (by omega)]
    simp
  | succ n ih =>
    intro k l i a hl hk hm h0 h1 hj
    obtain ⟨k, rfl⟩ : ∃ m, k = m + 1 := ⟨k - 1, by omega⟩
    have hi : i < l.length := by omega
    obtain ⟨s, e, hs⟩ := hj 0 (by omega)
    rw [Nat.add_zero, List.getElem?_eq_getElem hi] at e
    have e := Option.some.inj e
    have hs' : laws_markText.f k a = some s := by simpa using hs k (by omega)
    have e2 := ih k l (i + 1) (a + 1) (by omega) (by omega) hm (by omega) (by omega) (fun j hjn => by
      obtain ⟨s', h5, h6⟩ := hj (j + 1) (by omega)
      refine ⟨s', by rw [show i + 1 + j = i + (j + 1) by omega]; exact h5, fun q hq => ?_⟩
      rw [show a + 1 + (j : Int) = a + ((j + 1 : Nat) : Int) by omega]
      exact h6 q hq)
    simp only [laws_heldStringS.l0]
    rw [if_pos (by omega), if_pos (by omega)]
    refine bsm hs' ?_
    rw [rdOf_nat hi, e, if_pos rfl, show wrap64 (a + 1) = a + 1 by unfold wrap64; omega, step64 (by omega), e2]
    refine congrArg some ?_
    omega
/-- A list of texts marked from 1 on: the marks stand, with a round less too. -/
theorem markStrs2 {k : Nat} (l : List ByteArray) (hk : l.length + 50 < k) (hm : l.length < 1099511627776) : ∃ r : Int × List ByteArray, laws_markStringS.f (k + 1) l 1 = some r ∧ laws_heldStringS.f (k + 1) r.2 1 = some r.1 ∧ laws_heldStringS.f k r.2 1 = some r.1 ∧ ¬ r.1 < 0 := by
  obtain ⟨l', e, h2, _, h4⟩ := markStrsF_l l.length (k + 1) l 0 1 (by omega) (by omega) hm (by omega) (by omega)
  refine ⟨_, e, ?_, ?_, ?_⟩
  · exact heldStrs_l l.length (k + 1) l' 0 1 (by omega) (by omega) (by omega) (by omega) (by omega) h4
  · exact heldStrs_l l.length k l' 0 1 (by omega) hk (by omega) (by omega) (by omega) h4
  · show ¬ (1 + (l.length : Int)) < 0
    omega
end Go.Proofs.Ytemfciflhbhobaa.Q
