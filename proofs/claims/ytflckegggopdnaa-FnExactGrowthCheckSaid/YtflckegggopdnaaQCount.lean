/- PeaksCount of 0 to 256 is how many bits are set, the program's and the reference's alike; elsewhere 0. No condition. -/
import Derived.Test.YtflckegggopdnaaGCount1
import Derived.Test.YtflckegggopdnaaQSplit
namespace Go.Proofs.Ytflckegggopdnaa.Q
open Go.RowKit Go.Proofs.Ytflckegggopdnaa.B Go.Proofs.YtflckegggopdnaaW.PrintWords Go.Proofs.YtflckegggopdnaaW.PrintLast
/-- How many bits are set. -/
def pc : Nat → Nat → Nat
  | 0, _ => 0
  | f + 1, n => n % 2 + pc f (n / 2)
def popc (n : Nat) : Nat := pc 9 n
theorem pc_zero (f : Nat) : pc f 0 = 0 := by
  induction f with
  | zero => rfl
  | succ f ih => simp [pc, ih]
theorem pc_more (f : Nat) : ∀ (n g : Nat), n < 2 ^ f → f ≤ g → pc g n = pc f n := by
  induction f with
  | zero => intro n g h hg; have : n = 0 := by simpa using h
            subst this; rw [pc_zero]; rfl
  | succ f ih =>
    intro n g h hg
    obtain ⟨g, rfl⟩ : ∃ m, g = m + 1 := ⟨g - 1, by omega⟩
    simp only [pc]
    rw [ih (n / 2) g (by rw [Nat.pow_succ] at h; omega) (by omega)]
theorem spec_count_l (f : Nat) : ∀ (k n c : Nat), f < k → n < 2 ^ f → n ≤ 256 → c ≤ 256 * 256 - 256 * f → f ≤ 9 → spec_PeaksCount.l0 k (n : Int) (c : Int) = some ((c + pc f n : Nat) : Int) := by
  induction f with
  | zero =>
    intro k n c hk hn _ hc _
    obtain ⟨k, rfl⟩ : ∃ m, k = m + 1 := ⟨k - 1, by omega⟩
    have : n = 0 := by simpa using hn
    subst this
    simp only [spec_PeaksCount.l0, pc]
    rw [if_neg (by omega)]
    simp
  | succ f ih =>
    intro k n c hk hn hn2 hc hf
    obtain ⟨k, rfl⟩ : ∃ m, k = m + 1 := ⟨k - 1, by omega⟩
    simp only [spec_PeaksCount.l0, pc]
    by_cases h : n = 0
    · subst h
      rw [if_neg (by omega)]
      simp [pc_zero]
    · rw [if_pos (by omega), show Int.tdiv (n : Int) 2 = ((n / 2 : Nat) : Int) by rw [Int.tdiv_eq_ediv_of_nonneg (by omega)]; omega, show Int.tmod (n : Int) 2 = ((n % 2 : Nat) : Int) by rw [Int.tmod_eq_emod_of_nonneg (by omega)]; omega,
        w64 (by omega) (by omega), w64 (by omega) (by omega), show (c : Int) + ((n % 2 : Nat) : Int) = ((c + n % 2 : Nat) : Int) by omega]
      rw [ih k (n / 2) (c + n % 2) (by omega) (by rw [Nat.pow_succ] at hn; omega) (by omega) (by omega) (by omega)]
      congr 2
      omega
theorem spec_count {k n : Nat} (hk : 10 ≤ k) (h : n ≤ 256) : spec_PeaksCount.f k (n : Int) = some ((popc n : Nat) : Int) := by
  unfold spec_PeaksCount.f
  rw [spec_in]
  simp only [Option.bind_some]
  rw [if_pos (by simp; omega)]
  have := spec_count_l 9 k n 0 (by omega) (by omega) h (by omega) (by omega)
  simpa [popc] using this
theorem spec_count_out {k : Nat} {a : Int} (h : a < 0 ∨ 256 < a) : spec_PeaksCount.f k a = some 0 := by
  unfold spec_PeaksCount.f
  rw [spec_in]
  simp only [Option.bind_some]
  rw [if_neg (by simp; omega)]
theorem ones64 : ∀ n : Fin 257, bits_OnesCount64.f ((n.val : Nat) : Int) = some ((popc n.val : Nat) : Int) := by decide +kernel
theorem impl_count {n : Nat} (h : n ≤ 256) : impl_PeaksCount.f (n : Int) = some ((popc n : Nat) : Int) := by
  unfold impl_PeaksCount.f
  rw [impl_in]
  simp only [Option.bind_some]
  rw [if_pos (by simp; omega), show IntKind.u64.wrap (n : Int) = (n : Int) by simp [IntKind.wrap, IntKind.signed, IntKind.bits]; omega]
  unfold bits_OnesCount.f
  rw [ones64 ⟨n, by omega⟩]
  rfl
theorem impl_count_out {a : Int} (h : a < 0 ∨ 256 < a) : impl_PeaksCount.f a = some 0 := by
  unfold impl_PeaksCount.f
  rw [impl_in]
  simp only [Option.bind_some]
  rw [if_neg (by simp; omega)]
end Go.Proofs.Ytflckegggopdnaa.Q
