/- The root of a tree is the pair of its halves' roots, and its peaks make it. Condition: at most 256 leaves. -/
import Derived.Test.YtemfciflhbhobaaQRuns
import Derived.Test.YtemfciflhbhobaaQPeaks
import Derived.Test.YtemfciflhbhobaaQCount
namespace Go.Proofs.Ytemfciflhbhobaa.Q
open Go.RowKit Go.Proofs.Ytemfciflhbhobaa.B Go.Proofs.YtemfciflhbhobaaW.PrintWords Go.Proofs.YtemfciflhbhobaaW.PrintLast Go.Proofs.YtemfciflhbhobaaW.PrintMore
set_option linter.unusedVariables false
set_option linter.unusedSimpArgs false
theorem rootF_fuel (f : Nat) : ∀ (g : Nat) (l : List ByteArray), l.length ≤ f → f ≤ g → l.length ≤ 256 → rootF g l = rootF f l := by
  induction f with
  | zero =>
    intro g l h _ _
    obtain rfl : l = [] := List.eq_nil_of_length_eq_zero (by omega)
    cases g <;> rfl
  | succ f ih =>
    intro g l h hg h2
    obtain ⟨g, rfl⟩ : ∃ m, g = m + 1 := ⟨g - 1, by omega⟩
    match l, h, h2 with
    | [], _, _ => rfl
    | [s], _, _ => rfl
    | a :: b :: l, h, h2 =>
      simp only [List.length_cons] at h h2
      have hs := spl_lt (n := l.length + 2) (by omega) (by omega)
      simp only [rootF]
      rw [ih g _ (by rw [List.length_take, List.length_cons, List.length_cons]; omega) (by omega) (by rw [List.length_take, List.length_cons, List.length_cons]; omega),
        ih g _ (by rw [List.length_drop, List.length_cons, List.length_cons]; omega) (by omega) (by rw [List.length_drop, List.length_cons, List.length_cons]; omega)]
theorem root_nil : root [] = hashOf ⟨#[]⟩ := rfl
theorem root_one (s : ByteArray) : root [s] = hashLeaf s := rfl
theorem root_split {l : List ByteArray} (h0 : 2 ≤ l.length) (h1 : l.length ≤ 256) : root l = hashPair (root (l.take (spl l.length))) (root (l.drop (spl l.length))) := by
  match l, h0, h1 with
  | a :: b :: l, _, h1 =>
    simp only [List.length_cons] at h1
    have hs := spl_lt (n := l.length + 2) (by omega) (by omega)
    have e1 : (a :: b :: l).length = l.length + 2 := by simp
    unfold root
    rw [e1]
    have e2 : rootF 256 (a :: b :: l) = hashPair (rootF 255 ((a :: b :: l).take (spl (l.length + 2)))) (rootF 255 ((a :: b :: l).drop (spl (l.length + 2)))) := rfl
    rw [e2, rootF_fuel 255 256 ((a :: b :: l).take (spl (l.length + 2))) (by rw [List.length_take, e1]; omega) (by omega) (by rw [List.length_take, e1]; omega),
      rootF_fuel 255 256 ((a :: b :: l).drop (spl (l.length + 2))) (by rw [List.length_drop, e1]; omega) (by omega) (by rw [List.length_drop, e1]; omega)]
theorem pow_top {n : Nat} (h0 : 1 ≤ n) (h1 : n ≤ 256) : ∃ e, 2 ^ e ≤ n ∧ n < 2 ^ (e + 1) ∧ e ≤ 8 := by
  refine ⟨n.log2, Nat.log2_self_le (by omega), Nat.lt_log2_self, ?_⟩
  rcases Nat.lt_or_ge 8 n.log2 with c | c
  · have h2 : (2 : Nat) ^ 9 ≤ 2 ^ n.log2 := Nat.pow_le_pow_right (by omega) c
    have h3 := Nat.log2_self_le (n := n) (by omega)
    rw [show (2 : Nat) ^ 9 = 512 by rfl] at h2
    omega
  · exact c
theorem spl_top {n e : Nat} (h0 : 2 ^ e < n) (h1 : n < 2 ^ (e + 1)) (h2 : n ≤ 256) (h3 : 2 ≤ n) : spl n = 2 ^ e := by
  obtain ⟨d, hd, h4, h5, h6⟩ := spl_is h3 h2
  rw [hd]
  have : d = e := by
    rcases Nat.lt_trichotomy d e with c | c | c
    · have : (2 : Nat) ^ (d + 1) ≤ 2 ^ e := Nat.pow_le_pow_right (by omega) c
      omega
    · exact c
    · have : (2 : Nat) ^ (e + 1) ≤ 2 ^ d := Nat.pow_le_pow_right (by omega) c
      omega
  rw [this]
theorem d4_toSD (d : D4) : d4 (toSD d) = d := rfl
/-- The peaks make the root. -/
theorem proot_peaks (f : Nat) : ∀ l : List ByteArray, l.length ≤ f → l.length ≤ 256 → proot (peaks l) = root l := by
  induction f with
  | zero =>
    intro l h _
    obtain rfl : l = [] := List.eq_nil_of_length_eq_zero (by omega)
    rw [peaks_nil]
    rfl
  | succ f ih =>
    intro l h h2
    by_cases h0 : l.length = 0
    · obtain rfl : l = [] := List.eq_nil_of_length_eq_zero h0
      rw [peaks_nil]
      rfl
    · obtain ⟨e, h3, h4, h5⟩ := pow_top (n := l.length) (by omega) h2
      have hp : 0 < 2 ^ e := Nat.pow_pos (by omega)
      rw [peaks_cons h5 h3 h4]
      by_cases h6 : l.length = 2 ^ e
      · rw [List.drop_of_length_le (by omega), peaks_nil, List.take_of_length_le (by omega)]
        rfl
      · have hd : (l.drop (2 ^ e)).length = l.length - 2 ^ e := List.length_drop
        obtain ⟨e', h7, h8, h9⟩ := pow_top (n := (l.drop (2 ^ e)).length) (by omega) (by omega)
        have i1 := ih (l.drop (2 ^ e)) (by omega) (by omega)
        have e1 := peaks_cons h9 h7 h8
        rw [e1] at i1 ⊢
        show hashPair (d4 (toSD (root (l.take (2 ^ e))))) (proot (_ :: _)) = root l
        rw [i1, d4_toSD, root_split (by omega) h2, spl_top (by omega) h4 h2 (by omega)]
/-- There are as many peaks as bits. -/
theorem peaks_count (f : Nat) : ∀ l : List ByteArray, l.length ≤ f → l.length ≤ 256 → (peaks l).length = popc l.length := by
  induction f with
  | zero =>
    intro l h _
    obtain rfl : l = [] := List.eq_nil_of_length_eq_zero (by omega)
    rw [peaks_nil]
    rfl
  | succ f ih =>
    intro l h h2
    by_cases h0 : l.length = 0
    · obtain rfl : l = [] := List.eq_nil_of_length_eq_zero h0
      rw [peaks_nil]
      rfl
    · obtain ⟨e, h3, h4, h5⟩ := pow_top (n := l.length) (by omega) h2
      have hp : 0 < 2 ^ e := Nat.pow_pos (by omega)
      have hd : (l.drop (2 ^ e)).length = l.length - 2 ^ e := List.length_drop
      rw [peaks_cons h5 h3 h4, List.length_cons, ih _ (by omega) (by omega), hd]
      have := pc_top ⟨e, by omega⟩ ⟨l.length - 2 ^ e, by omega⟩ (by rw [Nat.pow_succ] at h4; show l.length - 2 ^ e < 2 ^ e; omega) (by show 2 ^ e + (l.length - 2 ^ e) ≤ 256; omega)
      simp only [Fin.val_mk] at this
      rw [show 2 ^ e + (l.length - 2 ^ e) = l.length by omega] at this
      unfold popc
      omega
where
  pc_top : ∀ e : Fin 9, ∀ x : Fin 257, x.val < 2 ^ e.val → 2 ^ e.val + x.val ≤ 256 → pc 9 (2 ^ e.val + x.val) = 1 + pc 9 x.val := by decide +kernel
theorem popc_le : ∀ n : Fin 257, popc n.val ≤ 8 := by decide +kernel
theorem peaksRoot_peaks {l : List ByteArray} (h : l.length ≤ 256) : peaksRoot (peaks l) = root l := by
  unfold peaksRoot
  have h1 := peaks_count l.length l (Nat.le_refl _) h
  have h2 := popc_le ⟨l.length, by omega⟩
  simp only [Fin.val_mk] at h2
  rw [if_neg (by omega)]
  exact proot_peaks l.length l (Nat.le_refl _) h
end Go.Proofs.Ytemfciflhbhobaa.Q
