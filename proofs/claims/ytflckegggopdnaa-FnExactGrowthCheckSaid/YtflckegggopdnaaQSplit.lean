/- TreeSplit of 2 to 256 is a power of two below its argument, the program's and the reference's alike; elsewhere 0. No condition. -/
import Derived.Test.YtflckegggopdnaaGSplit1
namespace Go.Proofs.Ytflckegggopdnaa.Q
open Go.RowKit Go.Proofs.Ytflckegggopdnaa.B Go.Proofs.YtflckegggopdnaaW.PrintWords Go.Proofs.YtflckegggopdnaaW.PrintLast

theorem w64 {x : Int} (h0 : -9223372036854775808 ≤ x) (h1 : x ≤ 9223372036854775807) : wrap64 x = x := by unfold wrap64; omega
theorem bounds64 {x : Int} (h : (Lit.int .i64 x).wf = true) : -9223372036854775808 ≤ x ∧ x ≤ 9223372036854775807 := by
  simp [Lit.wf, IntKind.min, IntKind.max, IntKind.signed, IntKind.bits] at h
  omega

def splAux : Nat → Nat → Nat → Nat
  | 0, _, c => c
  | f + 1, n, c => if 2 * c < n then splAux f n (2 * c) else c
/-- The greatest power of two below n, for n from 2 to 256. -/
def spl (n : Nat) : Nat := splAux 7 n 1

theorem twice (c f : Nat) : 2 * (2 * c) * 2 ^ f = 2 * c * 2 ^ (f + 1) := by rw [Nat.pow_succ]; ac_rfl
theorem splAux_is (f : Nat) : ∀ (n c j : Nat), c = 2 ^ j → c < n → n ≤ 2 * c * 2 ^ f → ∃ e, splAux f n c = 2 ^ e ∧ 2 ^ e < n ∧ n ≤ 2 ^ (e + 1) ∧ e ≤ j + f := by
  induction f with
  | zero => intro n c j hc h1 h2; exact ⟨j, hc, by omega, by rw [Nat.pow_succ]; omega, by omega⟩
  | succ f ih =>
    intro n c j hc h1 h2
    unfold splAux
    by_cases h : 2 * c < n
    · rw [if_pos h]
      obtain ⟨e, he, h3, h4, h5⟩ := ih n (2 * c) (j + 1) (by rw [hc, Nat.pow_succ]; omega) h (by rw [twice]; exact h2)
      exact ⟨e, he, h3, h4, by omega⟩
    · rw [if_neg h]
      exact ⟨j, hc, by omega, by rw [Nat.pow_succ]; omega, by omega⟩
theorem spl_is {n : Nat} (h0 : 2 ≤ n) (h1 : n ≤ 256) : ∃ e, spl n = 2 ^ e ∧ 2 ^ e < n ∧ n ≤ 2 ^ (e + 1) ∧ e ≤ 7 := by
  obtain ⟨e, h⟩ := splAux_is 7 n 1 0 rfl (by omega) (by omega)
  exact ⟨e, h.1, h.2.1, h.2.2.1, by have := h.2.2.2; omega⟩
theorem spl_lt {n : Nat} (h0 : 2 ≤ n) (h1 : n ≤ 256) : 1 ≤ spl n ∧ spl n < n ∧ n ≤ 2 * spl n := by
  obtain ⟨e, he, h2, h3, _⟩ := spl_is h0 h1
  rw [Nat.pow_succ] at h3
  have : 0 < 2 ^ e := Nat.pow_pos (by omega)
  omega

theorem spec_split_l (f : Nat) : ∀ (k n c : Nat), f < k → n ≤ 2 * c * 2 ^ f → n ≤ 256 → c ≤ 256 → spec_TreeSplit.l0 k (n : Int) (c : Int) = some ((splAux f n c : Nat) : Int) := by
  induction f with
  | zero =>
    intro k n c hk h2 hn hc
    obtain ⟨k, rfl⟩ : ∃ m, k = m + 1 := ⟨k - 1, by omega⟩
    simp only [spec_TreeSplit.l0, splAux]
    rw [w64 (by omega) (by omega), if_neg (by omega)]
  | succ f ih =>
    intro k n c hk h2 hn hc
    obtain ⟨k, rfl⟩ : ∃ m, k = m + 1 := ⟨k - 1, by omega⟩
    simp only [spec_TreeSplit.l0, splAux]
    rw [w64 (by omega) (by omega)]
    by_cases h : 2 * c < n
    · rw [if_pos (by omega), if_pos h]
      have := ih k n (2 * c) (by omega) (by rw [twice]; exact h2) hn (by omega)
      rw [show ((2 * c : Nat) : Int) = 2 * (c : Int) by omega] at this
      exact this
    · rw [if_neg (by omega), if_neg h]
theorem impl_split_l (k : Nat) : ∀ x y, impl_TreeSplit.l0 k x y = spec_TreeSplit.l0 k x y := by
  induction k with
  | zero => intro x y; rfl
  | succ k ih => intro x y; simp only [impl_TreeSplit.l0, spec_TreeSplit.l0, ih, Int.mul_comm y 2]

theorem spec_in {a lo hi : Int} : spec_l1In.f a lo hi = some (decide (lo ≤ a ∧ a ≤ hi)) := by
  unfold spec_l1In.f
  by_cases h : a ≥ lo
  · rw [if_pos h]; simp [h]
  · rw [if_neg h]; simp [h]
theorem impl_in {a lo hi : Int} : impl_in.f a lo hi = some (decide (lo ≤ a ∧ a ≤ hi)) := by
  unfold impl_in.f
  by_cases h : a ≥ lo
  · rw [if_pos h]; simp [h]
  · rw [if_neg h]; simp [h]

theorem spec_split {k n : Nat} (hk : 8 ≤ k) (h0 : 2 ≤ n) (h1 : n ≤ 256) : spec_TreeSplit.f k (n : Int) = some ((spl n : Nat) : Int) := by
  unfold spec_TreeSplit.f
  rw [spec_in]
  simp only [Option.bind_some]
  rw [if_pos (by simp; omega)]
  exact spec_split_l 7 k n 1 (by omega) (by omega) h1 (by omega)
theorem spec_split_out {k : Nat} {a : Int} (h : a < 2 ∨ 256 < a) : spec_TreeSplit.f k a = some 0 := by
  unfold spec_TreeSplit.f
  rw [spec_in]
  simp only [Option.bind_some]
  rw [if_neg (by simp; omega)]
theorem impl_is_spec_split (k : Nat) (a : Int) : impl_TreeSplit.f k a = spec_TreeSplit.f k a := by
  unfold impl_TreeSplit.f spec_TreeSplit.f
  rw [impl_in, spec_in]
  simp only [Option.bind_some, impl_split_l]
theorem impl_split {k n : Nat} (hk : 8 ≤ k) (h0 : 2 ≤ n) (h1 : n ≤ 256) : impl_TreeSplit.f k (n : Int) = some ((spl n : Nat) : Int) := by
  rw [impl_is_spec_split, spec_split hk h0 h1]
theorem split_some (a : Int) : ∃ r, ∀ k, 8 ≤ k → spec_TreeSplit.f k a = some r := by
  by_cases h : 2 ≤ a ∧ a ≤ 256
  · obtain ⟨n, rfl⟩ : ∃ n : Nat, a = n := ⟨a.toNat, by omega⟩
    exact ⟨_, fun k hk => spec_split hk (by omega) (by omega)⟩
  · exact ⟨0, fun k _ => spec_split_out (by omega)⟩
end Go.Proofs.Ytflckegggopdnaa.Q
