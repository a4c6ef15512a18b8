/- The peaks of a list of leaves as a plain list, and the greatest power of two that is at most a number. No condition. -/
import Derived.Test.YtflckegggopdnaaQRootS
import Derived.Test.YtflckegggopdnaaQLeaves
import Derived.Test.YtflckegggopdnaaGRuns1
namespace Go.Proofs.Ytflckegggopdnaa.Q
open Go.RowKit Go.Proofs.Ytflckegggopdnaa.B Go.Proofs.YtflckegggopdnaaW.PrintWords Go.Proofs.YtflckegggopdnaaW.PrintLast Go.Proofs.YtflckegggopdnaaW.PrintMore
/-- The peaks in runs of at most 2^(e-1) leaves each. -/
def peaksF : Nat → List ByteArray → List SD
  | 0, _ => []
  | e + 1, l => if 2 ^ e ≤ l.length then toSD (root (l.take (2 ^ e))) :: peaksF e (l.drop (2 ^ e)) else peaksF e l
def peaks (l : List ByteArray) : List SD := peaksF 9 l
theorem peaksF_len (e : Nat) : ∀ l : List ByteArray, (peaksF e l).length ≤ e := by
  induction e with
  | zero => intro l; exact Nat.le_refl _
  | succ e ih =>
    intro l
    unfold peaksF
    split
    · exact Nat.succ_le_succ (ih _)
    · exact Nat.le_succ_of_le (ih _)
theorem peaksF_more (e : Nat) : ∀ (g : Nat) (l : List ByteArray), l.length < 2 ^ e → peaksF (e + g) l = peaksF e l := by
  intro g
  induction g with
  | zero => intro l _; rfl
  | succ g ih =>
    intro l h
    rw [show e + (g + 1) = (e + g) + 1 by omega]
    unfold peaksF
    have : (2 : Nat) ^ e ≤ 2 ^ (e + g) := Nat.pow_le_pow_right (by omega) (by omega)
    rw [if_neg (by omega), ih l h]
    cases e <;> rfl
theorem peaks_nil : peaks [] = [] := by
  exact peaksF_more 0 9 [] (by simp)
theorem peaks_cons {e : Nat} {l : List ByteArray} (he : e ≤ 8) (h0 : 2 ^ e ≤ l.length) (h1 : l.length < 2 ^ (e + 1)) : peaks l = toSD (root (l.take (2 ^ e))) :: peaks (l.drop (2 ^ e)) := by
  unfold peaks
  have e1 := peaksF_more (e + 1) (8 - e) l h1
  rw [show e + 1 + (8 - e) = 9 by omega] at e1
  have h2 : (l.drop (2 ^ e)).length < 2 ^ e := by rw [List.length_drop]; rw [Nat.pow_succ] at h1; omega
  have e2 := peaksF_more e (9 - e) (l.drop (2 ^ e)) h2
  rw [show e + (9 - e) = 9 by omega] at e2
  rw [e1, e2]
  show (if 2 ^ e ≤ l.length then _ else _) = _
  rw [if_pos h0]
/-- The greatest power of two that is at most n. -/
theorem half_l (g : Nat) : ∀ (k n j : Nat), g < k → 2 ^ j ≤ n → n < 2 ^ (j + g) → n ≤ 256 → ∃ e, spec_l2Half.l0 k (n : Int) ((2 ^ j : Nat) : Int) = some ((2 ^ e : Nat) : Int) ∧ 2 ^ e ≤ n ∧ n < 2 ^ (e + 1) := by
  induction g with
  | zero => intro k n j _ h0 h1; rw [Nat.add_zero] at h1; omega
  | succ g ih =>
    intro k n j hk h0 h1 h2
    obtain ⟨k, rfl⟩ : ∃ m, k = m + 1 := ⟨k - 1, by omega⟩
    simp only [spec_l2Half.l0]
    have e1 : wrap64 (2 * ((2 ^ j : Nat) : Int)) = ((2 ^ (j + 1) : Nat) : Int) := by rw [Nat.pow_succ]; unfold wrap64; omega
    rw [e1]
    by_cases c : 2 ^ (j + 1) ≤ n
    · rw [if_pos (by omega)]
      exact ih k n (j + 1) (by omega) c (by rw [show j + 1 + g = j + (g + 1) by omega]; exact h1) h2
    · rw [if_neg (by omega)]
      exact ⟨j, rfl, h0, by omega⟩
theorem spec_half {k n : Nat} (hk : 10 < k) (h0 : 1 ≤ n) (h1 : n ≤ 256) : ∃ e, spec_l2Half.f k (n : Int) = some ((2 ^ e : Nat) : Int) ∧ 2 ^ e ≤ n ∧ n < 2 ^ (e + 1) ∧ e ≤ 8 := by
  unfold spec_l2Half.f
  obtain ⟨e, h, h2, h3⟩ := half_l 9 k n 0 (by omega) (by simpa using h0) (by rw [Nat.zero_add, show (2 : Nat) ^ 9 = 512 by rfl]; omega) h1
  refine ⟨e, by simpa using h, h2, h3, ?_⟩
  rcases Nat.lt_or_ge 8 e with c | c
  · have : (2 : Nat) ^ 9 ≤ 2 ^ e := Nat.pow_le_pow_right (by omega) (by omega)
    rw [show (2 : Nat) ^ 9 = 512 by rfl] at this
    omega
  · exact c
theorem peaks_len (l : List ByteArray) : (peaks l).length ≤ 9 := peaksF_len 9 l
end Go.Proofs.Ytflckegggopdnaa.Q
