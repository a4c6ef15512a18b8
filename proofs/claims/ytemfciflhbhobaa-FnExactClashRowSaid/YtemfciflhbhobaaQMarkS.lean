/- The laws' marking of a list of texts comes to an end and tells no number below 0. Condition: fewer than 2^40 texts. -/
import Derived.Test.YtemfciflhbhobaaQList
import Derived.Test.YtemfciflhbhobaaGLawMS1
namespace Go.Proofs.Ytemfciflhbhobaa.Q
open Go.RowKit Go.Proofs.Ytemfciflhbhobaa.B Go.Proofs.YtemfciflhbhobaaW.PrintWords Go.Proofs.YtemfciflhbhobaaW.PrintLast Go.Proofs.YtemfciflhbhobaaW.PrintMore
theorem bsm {α β : Type} {x : Option α} {v : α} {F : α → Option β} {r : Option β} (h : x = some v) (k : F v = r) : x.bind F = r := by rw [h]; exact k
theorem str_one (a : Int) : (strOfNums [a]).size = 1 := rfl
theorem markText_l (n : Nat) : ∀ (k : Nat) (x : Int) (s : ByteArray), 0 ≤ x → x < 10 ^ n → n < k → s.size + n ≤ 4611686018427387904 → ∃ r, laws_markText.l0 k x s = some r := by
  induction n with
  | zero =>
    intro k x s h0 h1 hk hs
    obtain ⟨k, rfl⟩ : ∃ m, k = m + 1 := ⟨k - 1, by omega⟩
    have hx : x = 0 := by omega
    subst hx
    simp only [laws_markText.l0]
    rw [if_neg (by omega), if_pos (by omega)]
    exact ⟨_, rfl⟩
  | succ n ih =>
    intro k x s h0 h1 hk hs
    obtain ⟨k, rfl⟩ : ∃ m, k = m + 1 := ⟨k - 1, by omega⟩
    simp only [laws_markText.l0]
    by_cases h : x > 0
    · rw [if_pos h]
      simp only [Option.bind_some]
      rw [str_one, if_pos (by omega)]
      have e1 : Int.tdiv x 10 = x / 10 := by rw [Int.tdiv_eq_ediv_of_nonneg h0]
      have e2 : (10 : Int) ^ (n + 1) = 10 * 10 ^ n := by rw [Int.pow_succ, Int.mul_comm]
      have e3 : wrap64 (Int.tdiv x 10) = x / 10 ∨ x > 9223372036854775807 := by
        by_cases c : x > 9223372036854775807
        · exact .inr c
        · left; rw [e1]; unfold wrap64; omega
      rcases e3 with e3 | e3
      · rw [e3]
        exact ih k _ _ (by omega) (by omega) (by omega) (by rw [ByteArray.size_append, str_one]; omega)
      · have hw : 0 ≤ wrap64 (Int.tdiv x 10) ∧ wrap64 (Int.tdiv x 10) < 10 ^ n ∨ ¬ (0 ≤ wrap64 (Int.tdiv x 10) ∧ wrap64 (Int.tdiv x 10) < 10 ^ n) := Decidable.em _
        rcases hw with hw | hw
        · exact ih k _ _ hw.1 hw.2 (by omega) (by rw [ByteArray.size_append, str_one]; omega)
        · obtain ⟨k, rfl⟩ : ∃ m, k = m + 1 := ⟨k - 1, by omega⟩
          by_cases hb : wrap64 (Int.tdiv x 10) > 0
          · exfalso
            apply hw
            refine ⟨by omega, ?_⟩
            have : wrap64 (Int.tdiv x 10) ≤ x / 10 := by rw [e1]; unfold wrap64; omega
            omega
          · simp only [laws_markText.l0]
            rw [if_neg hb, if_pos (by rw [ByteArray.size_append, str_one]; omega)]
            exact ⟨_, rfl⟩
    · rw [if_neg h, if_pos (by omega)]
      exact ⟨_, rfl⟩
theorem markText_some {k : Nat} (hk : 40 ≤ k) (x : Int) (h1 : x < 9223372036854775807) : ∃ r, laws_markText.f k x = some r := by
  unfold laws_markText.f
  by_cases h : x ≤ 0
  · rw [if_pos h]; exact ⟨_, rfl⟩
  · rw [if_neg h]
    exact markText_l 19 k x _ (by omega) (by omega) (by omega) (by decide)
theorem markStrs_l (n : Nat) : ∀ (k : Nat) (l : List ByteArray) (i : Nat) (a : Int), l.length = i + n → n + 50 < k → l.length < 1099511627776 → 0 ≤ a → a + n < 4611686018427387904 →
    ∃ l', laws_markStringS.l0 k l a (i : Int) = some (a + n, l') := by
  induction n with
  | zero =>
    intro k l i a hl hk hm h0 h1
    obtain ⟨k, rfl⟩ : ∃ m, k = m + 1 := ⟨k - 1, by omega⟩
    simp only [laws_markStringS.l0]
    rw [if_neg (by omega)]
    exact ⟨l, by simp⟩
  | succ n ih =>
    intro k l i a hl hk hm h0 h1
    obtain ⟨k, rfl⟩ : ∃ m, k = m + 1 := ⟨k - 1, by omega⟩
    simp only [laws_markStringS.l0]
    obtain ⟨r, hr⟩ := markText_some (k := k) (by omega) a (by omega)
    obtain ⟨l', h⟩ := ih k (l.set i r) (i + 1) (a + 1) (by simp; omega) (by omega) (by simpa using hm) (by omega) (by omega)
    refine ⟨l', ?_⟩
    rw [if_pos (by omega)]
    refine bsm hr ?_
    rw [if_pos (by omega), show ((i : Nat) : Int).toNat = i from rfl, show wrap64 (a + 1) = a + 1 by unfold wrap64; omega, step64 (by omega), h]
    refine congrArg some ?_
    refine Prod.ext ?_ rfl
    show a + 1 + (n : Int) = a + ((n + 1 : Nat) : Int)
    omega
theorem markStrs {k : Nat} (l : List ByteArray) (hk : l.length + 50 < k) (hm : l.length < 1099511627776) : ∃ r : Int × List ByteArray, laws_markStringS.f k l 1 = some r ∧ ¬ r.1 < 0 := by
  obtain ⟨l', h⟩ := markStrs_l l.length k l 0 1 (by omega) hk hm (by omega) (by omega)
  exact ⟨_, h, by show ¬ (1 + (l.length : Int)) < 0; omega⟩
end Go.Proofs.Ytemfciflhbhobaa.Q
