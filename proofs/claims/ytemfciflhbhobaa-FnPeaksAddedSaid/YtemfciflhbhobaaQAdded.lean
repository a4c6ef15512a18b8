/- PeaksAdd of the peaks of a list of leaves and one leaf more gives the peaks of the longer list. -/
import Derived.Test.YtemfciflhbhobaaQAdd
namespace Go.Proofs.Ytemfciflhbhobaa.Q
open Go.RowKit Go.Proofs.Ytemfciflhbhobaa.B Go.Proofs.YtemfciflhbhobaaW.PrintWords Go.Proofs.YtemfciflhbhobaaW.PrintLast Go.Proofs.YtemfciflhbhobaaW.PrintMore
set_option linter.unusedVariables false
set_option linter.unusedSimpArgs false
theorem two_lt (j : Nat) : 2 ^ j < 2 ^ (j + 1) := by
  rw [Nat.pow_succ]
  have := Nat.two_pow_pos j
  omega
theorem pow_small {j : Nat} (h : 2 ^ j ≤ 256) : j ≤ 8 := by
  rcases Nat.lt_or_ge 8 j with c | c
  · have := Nat.pow_le_pow_right (n := 2) (by decide) (show 9 ≤ j from c)
    omega
  · exact c
theorem peaks_snoc (j : Nat) (N : Nat) : ∀ (A Z : List ByteArray), A.length ≤ N → 2 ^ (j + 1) ∣ A.length → Z.length = 2 ^ j → A.length + 2 ^ j ≤ 256 → peaks (A ++ Z) = peaks A ++ [toSD (root Z)] := by
  induction N with
  | zero =>
    intro A Z hA hd hZ hn
    obtain rfl := List.eq_nil_of_length_eq_zero (Nat.le_zero.1 hA)
    have hj := pow_small (j := j) (by omega)
    rw [peaks_nil, List.nil_append, List.nil_append, peaks_cons hj (by omega) (by have := two_lt j; omega), List.take_of_length_le (by omega), List.drop_of_length_le (by omega), peaks_nil]
  | succ N ih =>
    intro A Z hA hd hZ hn
    have hj := pow_small (j := j) (by omega)
    rcases Nat.eq_zero_or_pos A.length with h0 | h0
    · obtain rfl := List.eq_nil_of_length_eq_zero h0
      exact ih [] Z (Nat.zero_le _) hd hZ hn
    · have hJ := two_lt j
      have hle := Nat.le_of_dvd h0 hd
      obtain ⟨e, h1, h2, h3⟩ := pow_top (n := A.length + 2 ^ j) (by omega) hn
      have hje : j + 1 ≤ e := by
        rcases Nat.lt_or_ge j e with c | c
        · exact c
        · have := Nat.pow_le_pow_right (n := 2) (by decide) (show e + 1 ≤ j + 1 by omega)
          omega
      have hd2 : 2 ^ (j + 1) ∣ 2 ^ e := Nat.pow_dvd_pow 2 hje
      have h4 : 2 ^ e ≤ A.length := by
        rcases Nat.lt_or_ge A.length (2 ^ e) with c | c
        · obtain ⟨x, hx⟩ := hd
          obtain ⟨y, hy⟩ := hd2
          rw [hx, hy] at c
          have hxy : x < y := Nat.lt_of_mul_lt_mul_left c
          have := Nat.mul_le_mul_left (2 ^ (j + 1)) (show x + 1 ≤ y from hxy)
          rw [Nat.mul_add, Nat.mul_one, ← hx, ← hy] at this
          omega
        · exact c
      rw [peaks_cons h3 (by rw [List.length_append]; omega) (by rw [List.length_append]; omega), peaks_cons (l := A) h3 h4 (by omega), List.take_append_of_le_length h4, List.drop_append_of_le_length h4]
      rw [ih (A.drop (2 ^ e)) Z (by rw [List.length_drop]; have := Nat.two_pow_pos e; omega) (by rw [List.length_drop]; exact Nat.dvd_sub hd hd2) hZ (by rw [List.length_drop]; omega)]
      rfl
theorem spl_pow : ∀ j : Fin 8, spl (2 ^ (j.val + 1)) = 2 ^ j.val := by decide +kernel
theorem addF_peaks (l : List ByteArray) (s : ByteArray) (h : l.length ≤ 255) (f : Nat) : ∀ (j m : Nat), m < 2 ^ f → l.length + 1 = m * 2 ^ j + 2 ^ j →
    addF f m (peaks (l.take (m * 2 ^ j))) (toSD (root (l.drop (m * 2 ^ j) ++ [s]))) = peaks (l ++ [s]) := by
  have E : ∀ (j m : Nat), l.length + 1 = m * 2 ^ j + 2 ^ j → 2 ^ (j + 1) ∣ m * 2 ^ j → peaks (l.take (m * 2 ^ j)) ++ [toSD (root (l.drop (m * 2 ^ j) ++ [s]))] = peaks (l ++ [s]) := by
    intro j m hl hd
    have hp := Nat.two_pow_pos j
    have ht : (l.take (m * 2 ^ j)).length = m * 2 ^ j := by rw [List.length_take]; omega
    have := peaks_snoc j (m * 2 ^ j) (l.take (m * 2 ^ j)) (l.drop (m * 2 ^ j) ++ [s]) (by omega) (by rw [ht]; exact hd) (by rw [List.length_append, List.length_drop, List.length_singleton]; omega) (by omega)
    rw [← this, ← List.append_assoc, List.take_append_drop]
  induction f with
  | zero =>
    intro j m hm hl
    obtain rfl : m = 0 := by simpa using hm
    simp only [addF]
    exact E j 0 hl (by rw [Nat.zero_mul]; exact Nat.dvd_zero _)
  | succ f ih =>
    intro j m hm hl
    have hp := Nat.two_pow_pos j
    unfold addF
    by_cases c : m % 2 = 1
    · rw [if_pos c]
      obtain ⟨q, rfl⟩ : ∃ q, m = 2 * q + 1 := ⟨m / 2, by omega⟩
      have hm2 : (2 * q + 1) * 2 ^ j = q * 2 ^ (j + 1) + 2 ^ j := by
        rw [Nat.add_mul, Nat.one_mul, Nat.pow_succ, Nat.mul_comm (2 ^ j) 2, ← Nat.mul_assoc, Nat.mul_comm q 2]
      have hJ : 2 ^ (j + 1) = 2 ^ j * 2 := Nat.pow_succ _ _
      rw [hm2] at hl ⊢
      have hj : j + 1 ≤ 8 := pow_small (by omega)
      have e0 : l.take (q * 2 ^ (j + 1) + 2 ^ j) = l.take (q * 2 ^ (j + 1)) ++ (l.drop (q * 2 ^ (j + 1))).take (2 ^ j) := List.take_add
      have ht : (l.take (q * 2 ^ (j + 1))).length = q * 2 ^ (j + 1) := by rw [List.length_take]; omega
      have hz : ((l.drop (q * 2 ^ (j + 1))).take (2 ^ j)).length = 2 ^ j := by rw [List.length_take, List.length_drop]; omega
      have e1 := peaks_snoc j (q * 2 ^ (j + 1)) (l.take (q * 2 ^ (j + 1))) ((l.drop (q * 2 ^ (j + 1))).take (2 ^ j)) (by omega) (by rw [ht]; exact Nat.dvd_mul_left _ _) hz (by omega)
      rw [e0, e1]
      have e4 : (peaks (l.take (q * 2 ^ (j + 1))) ++ [toSD (root ((l.drop (q * 2 ^ (j + 1))).take (2 ^ j)))]).dropLast = peaks (l.take (q * 2 ^ (j + 1))) := by simp
      have e5 : ∀ t, (peaks (l.take (q * 2 ^ (j + 1))) ++ [toSD (root ((l.drop (q * 2 ^ (j + 1))).take (2 ^ j)))]).getLastD t = toSD (root ((l.drop (q * 2 ^ (j + 1))).take (2 ^ j))) := by intro t; simp
      rw [e4, e5, show (2 * q + 1) / 2 = q by omega]
      have e6 : hpS (toSD (root ((l.drop (q * 2 ^ (j + 1))).take (2 ^ j)))) (toSD (root (l.drop (q * 2 ^ (j + 1) + 2 ^ j) ++ [s]))) = toSD (root (l.drop (q * 2 ^ (j + 1)) ++ [s])) := by
        unfold hpS
        rw [d4_toSD, d4_toSD]
        have hd : (l.drop (q * 2 ^ (j + 1)) ++ [s]).length = 2 ^ (j + 1) := by rw [List.length_append, List.length_drop, List.length_singleton]; omega
        have hs := spl_pow ⟨j, by omega⟩
        simp only at hs
        have hr := root_split (l := l.drop (q * 2 ^ (j + 1)) ++ [s]) (by omega) (by omega)
        rw [hd, hs, List.take_append_of_le_length (by rw [List.length_drop]; omega), List.drop_append_of_le_length (by rw [List.length_drop]; omega), List.drop_drop] at hr
        rw [hr]
      rw [e6]
      exact ih (j + 1) q (by rw [Nat.pow_succ] at hm; omega) (by omega)
    · rw [if_neg c]
      obtain ⟨q, rfl⟩ : ∃ q, m = 2 * q := ⟨m / 2, by omega⟩
      refine E j (2 * q) hl ?_
      rw [Nat.pow_succ, Nat.mul_comm (2 ^ j) 2, Nat.mul_assoc, Nat.mul_comm q, ← Nat.mul_assoc]
      exact Nat.dvd_mul_right _ _
theorem add_peaks (l : List ByteArray) (s : ByteArray) (h : l.length ≤ 255) : addF 9 l.length (peaks l) (toSD (hashLeaf s)) = peaks (l ++ [s]) := by
  have := addF_peaks l s h 9 0 l.length (by omega) (by omega)
  rw [Nat.pow_zero, Nat.mul_one, List.take_of_length_le (Nat.le_refl _), List.drop_of_length_le (Nat.le_refl _), List.nil_append, root_one] at this
  exact this
end Go.Proofs.Ytemfciflhbhobaa.Q
