/- Every growth of drawn leaves is proved and taken: the plain law behind FnGrowthProves. No condition. -/
import Derived.Lib.EndianBits
import Derived.KernelRfl
import Derived.Test.YtflckegggopdnaaZGPFLawsFnGrowthProves
import Derived.Test.YtflckegggopdnaaZGPOpens
import Derived.Test.YtflckegggopdnaaZGPK
import Derived.Test.YtflckegggopdnaaZGPGSplit1
import Derived.Test.YtflckegggopdnaaZGPGWay1
import Derived.Test.YtflckegggopdnaaZGPGCount1
import Derived.Test.YtflckegggopdnaaZGPGFall1
import Derived.Test.YtflckegggopdnaaZGPHLook
import Derived.Test.YtflckegggopdnaaZGPM
import Derived.Test.YtflckegggopdnaaZGPGImplHash1
import Derived.Test.YtflckegggopdnaaZGPGImplPair1
import Derived.Test.YtflckegggopdnaaZGPGTree1
import Derived.Test.YtflckegggopdnaaZGPHCopiedD
import Derived.Test.YtflckegggopdnaaZGPFImplKnown
import Derived.Test.YtflckegggopdnaaZGPFImplDigestBy
import Derived.Test.YtflckegggopdnaaZGPGPeaksR1
import Derived.Test.YtflckegggopdnaaZGPFImplGrowthCheck
import Derived.Test.YtflckegggopdnaaZGPGEq1
import Derived.Test.YtflckegggopdnaaZGPFImplGrowthOf
import Derived.Test.YtflckegggopdnaaZGPGL11
import Derived.Test.YtflckegggopdnaaZGPFSpecL2RdSome
import Derived.Test.YtflckegggopdnaaZGPFSpecDrawGrowthOf
section
namespace Go.Proofs.Ytflckegggopdnaa.Q
open Go.RowKit Go.Proofs.Ytflckegggopdnaa.B Go.Proofs.YtflckegggopdnaaW.PrintWords Go.Proofs.YtflckegggopdnaaW.PrintLast
theorem w64 {x : Int} (h0 : -9223372036854775808 ≤ x) (h1 : x ≤ 9223372036854775807) : wrap64 x = x := by unfold wrap64; omega
def splAux : Nat → Nat → Nat → Nat
  | 0, _, c => c
  | f + 1, n, c => if 2 * c < n then splAux f n (2 * c) else c
def spl (n : Nat) : Nat := splAux 7 n 1
theorem twice (c f : Nat) : 2 * (2 * c) * 2 ^ f = 2 * c * 2 ^ (f + 1) := by rw [Nat.pow_succ]; ac_rfl
theorem splAux_is (f : Nat) : ∀ (n c j : Nat), c = 2 ^ j → c < n → n ≤ 2 * c * 2 ^ f → ∃ e, splAux f n c = 2 ^ e ∧ 2 ^ e < n ∧ n ≤ 2 ^ (e + 1) ∧ e ≤ j + f := by
  induction f with
  | zero => intro n c j hc h1 h2; exact ⟨j, hc, by omega, by rw [Nat.pow_succ]; omega, by omega⟩
  | succ f ih =>
    intro n c j hc h1 h2
    unfold splAux
    by_cases h : 2 * c < n
    · rw [if_pos h]
      obtain ⟨e, he, h3, h4, h5⟩ := ih n (2 * c) (j + 1) (by rw [hc, Nat.pow_succ]; omega) h (by rw [twice]; exact h2)
      exact ⟨e, he, h3, h4, by omega⟩
    · rw [if_neg h]
      exact ⟨j, hc, by omega, by rw [Nat.pow_succ]; omega, by omega⟩
theorem spl_is {n : Nat} (h0 : 2 ≤ n) (h1 : n ≤ 256) : ∃ e, spl n = 2 ^ e ∧ 2 ^ e < n ∧ n ≤ 2 ^ (e + 1) ∧ e ≤ 7 := by
  obtain ⟨e, h⟩ := splAux_is 7 n 1 0 rfl (by omega) (by omega)
  exact ⟨e, h.1, h.2.1, h.2.2.1, by have := h.2.2.2; omega⟩
theorem spl_lt {n : Nat} (h0 : 2 ≤ n) (h1 : n ≤ 256) : 1 ≤ spl n ∧ spl n < n ∧ n ≤ 2 * spl n := by
  obtain ⟨e, he, h2, h3, _⟩ := spl_is h0 h1
  rw [Nat.pow_succ] at h3
  have : 0 < 2 ^ e := Nat.pow_pos (by omega)
  omega
theorem spec_split_l (f : Nat) : ∀ (k n c : Nat), f < k → n ≤ 2 * c * 2 ^ f → n ≤ 256 → c ≤ 256 → spec_TreeSplit.l0 k (n : Int) (c : Int) = some ((splAux f n c : Nat) : Int) := by
  induction f with
  | zero =>
    intro k n c hk h2 hn hc
    obtain ⟨k, rfl⟩ : ∃ m, k = m + 1 := ⟨k - 1, by omega⟩
    simp only [spec_TreeSplit.l0, splAux]
    rw [w64 (by omega) (by omega), if_neg (by omega)]
  | succ f ih =>
    intro k n c hk h2 hn hc
    obtain ⟨k, rfl⟩ : ∃ m, k = m + 1 := ⟨k - 1, by omega⟩
    simp only [spec_TreeSplit.l0, splAux]
    rw [w64 (by omega) (by omega)]
    by_cases h : 2 * c < n
    · rw [if_pos (by omega), if_pos h]
      have := ih k n (2 * c) (by omega) (by rw [twice]; exact h2) hn (by omega)
      rw [show ((2 * c : Nat) : Int) = 2 * (c : Int) by omega] at this
      exact this
    · rw [if_neg (by omega), if_neg h]
theorem impl_split_l (k : Nat) : ∀ x y, impl_TreeSplit.l0 k x y = spec_TreeSplit.l0 k x y := by
  induction k with
  | zero => intro x y; rfl
  | succ k ih => intro x y; simp only [impl_TreeSplit.l0, spec_TreeSplit.l0, ih, Int.mul_comm y 2]
theorem spec_in {a lo hi : Int} : spec_l1In.f a lo hi = some (decide (lo ≤ a ∧ a ≤ hi)) := by
  unfold spec_l1In.f
  by_cases h : a ≥ lo
  · rw [if_pos h]; simp [h]
  · rw [if_neg h]; simp [h]
theorem impl_in {a lo hi : Int} : impl_in.f a lo hi = some (decide (lo ≤ a ∧ a ≤ hi)) := by
  unfold impl_in.f
  by_cases h : a ≥ lo
  · rw [if_pos h]; simp [h]
  · rw [if_neg h]; simp [h]
theorem spec_split {k n : Nat} (hk : 8 ≤ k) (h0 : 2 ≤ n) (h1 : n ≤ 256) : spec_TreeSplit.f k (n : Int) = some ((spl n : Nat) : Int) := by
  unfold spec_TreeSplit.f
  rw [spec_in]
  simp only [Option.bind_some]
  rw [if_pos (by simp; omega)]
  exact spec_split_l 7 k n 1 (by omega) (by omega) h1 (by omega)
theorem impl_is_spec_split (k : Nat) (a : Int) : impl_TreeSplit.f k a = spec_TreeSplit.f k a := by
  unfold impl_TreeSplit.f spec_TreeSplit.f
  rw [impl_in, spec_in]
  simp only [Option.bind_some, impl_split_l]
theorem impl_split {k n : Nat} (hk : 8 ≤ k) (h0 : 2 ≤ n) (h1 : n ≤ 256) : impl_TreeSplit.f k (n : Int) = some ((spl n : Nat) : Int) := by
  rw [impl_is_spec_split, spec_split hk h0 h1]
end Go.Proofs.Ytflckegggopdnaa.Q
end
section
namespace Go.Proofs.Ytflckegggopdnaa.Q
open Go.RowKit Go.Proofs.Ytflckegggopdnaa.B Go.Proofs.YtflckegggopdnaaW.PrintWords Go.Proofs.YtflckegggopdnaaW.PrintLast Go.Proofs.YtflckegggopdnaaW.PrintMore
abbrev NO := S100
theorem halves {k lo hi : Nat} (hk : 8 ≤ k) (h0 : lo + 2 ≤ hi) (h1 : hi ≤ 256) : impl_node_halves.f k (lo : Int) (hi : Int) = some ((lo : Int), ((lo + spl (hi - lo) : Nat) : Int), ((lo + spl (hi - lo) : Nat) : Int), (hi : Int)) := by
  unfold impl_node_halves.f
  have hs := spl_lt (n := hi - lo) (by omega) (by omega)
  rw [show wrap64 ((hi : Int) - (lo : Int)) = ((hi - lo : Nat) : Int) by unfold wrap64; omega, impl_split hk (by omega) (by omega)]
  simp only [Option.bind_some]
  rw [show wrap64 ((lo : Int) + ((spl (hi - lo) : Nat) : Int)) = ((lo + spl (hi - lo) : Nat) : Int) by unfold wrap64; omega]
end Go.Proofs.Ytflckegggopdnaa.Q
end
section
namespace Go.Proofs.Ytflckegggopdnaa.Q
open Go.RowKit Go.Proofs.Ytflckegggopdnaa.B Go.Proofs.YtflckegggopdnaaW.PrintWords Go.Proofs.YtflckegggopdnaaW.PrintLast
def pc : Nat → Nat → Nat
  | 0, _ => 0
  | f + 1, n => n % 2 + pc f (n / 2)
def popc (n : Nat) : Nat := pc 9 n
theorem pc_zero (f : Nat) : pc f 0 = 0 := by
  induction f with
  | zero => rfl
  | succ f ih => simp [pc, ih]
theorem spec_count_l (f : Nat) : ∀ (k n c : Nat), f < k → n < 2 ^ f → n ≤ 256 → c ≤ 256 * 256 - 256 * f → f ≤ 9 → spec_PeaksCount.l0 k (n : Int) (c : Int) = some ((c + pc f n : Nat) : Int) := by
  induction f with
  | zero =>
    intro k n c hk hn _ hc _
    obtain ⟨k, rfl⟩ : ∃ m, k = m + 1 := ⟨k - 1, by omega⟩
    have : n = 0 := by simpa using hn
    subst this
    simp only [spec_PeaksCount.l0, pc]
    rw [if_neg (by omega)]
    simp
  | succ f ih =>
    intro k n c hk hn hn2 hc hf
    obtain ⟨k, rfl⟩ : ∃ m, k = m + 1 := ⟨k - 1, by omega⟩
    simp only [spec_PeaksCount.l0, pc]
    by_cases h : n = 0
    · subst h
      rw [if_neg (by omega)]
      simp [pc_zero]
    · rw [if_pos (by omega), show Int.tdiv (n : Int) 2 = ((n / 2 : Nat) : Int) by rw [Int.tdiv_eq_ediv_of_nonneg (by omega)]; omega, show Int.tmod (n : Int) 2 = ((n % 2 : Nat) : Int) by rw [Int.tmod_eq_emod_of_nonneg (by omega)]; omega,
        w64 (by omega) (by omega), w64 (by omega) (by omega), show (c : Int) + ((n % 2 : Nat) : Int) = ((c + n % 2 : Nat) : Int) by omega]
      rw [ih k (n / 2) (c + n % 2) (by omega) (by rw [Nat.pow_succ] at hn; omega) (by omega) (by omega) (by omega)]
      congr 2
      omega
theorem spec_count {k n : Nat} (hk : 10 ≤ k) (h : n ≤ 256) : spec_PeaksCount.f k (n : Int) = some ((popc n : Nat) : Int) := by
  unfold spec_PeaksCount.f
  rw [spec_in]
  simp only [Option.bind_some]
  rw [if_pos (by simp; omega)]
  have := spec_count_l 9 k n 0 (by omega) (by omega) h (by omega) (by omega)
  simpa [popc] using this
theorem ones64 : ∀ n : Fin 257, bits_OnesCount64.f ((n.val : Nat) : Int) = some ((popc n.val : Nat) : Int) := by decide +kernel
theorem impl_count {n : Nat} (h : n ≤ 256) : impl_PeaksCount.f (n : Int) = some ((popc n : Nat) : Int) := by
  unfold impl_PeaksCount.f
  rw [impl_in]
  simp only [Option.bind_some]
  rw [if_pos (by simp; omega), show IntKind.u64.wrap (n : Int) = (n : Int) by simp [IntKind.wrap, IntKind.signed, IntKind.bits]; omega]
  unfold bits_OnesCount.f
  rw [ones64 ⟨n, by omega⟩]
  rfl
end Go.Proofs.Ytflckegggopdnaa.Q
end
section
namespace Go.Proofs.Ytflckegggopdnaa.Q
open Go.RowKit Go.Proofs.Ytflckegggopdnaa.B Go.Proofs.YtflckegggopdnaaW.PrintWords Go.Proofs.YtflckegggopdnaaW.PrintLast Go.Proofs.YtflckegggopdnaaW.PrintMore
def fallF : Nat → Nat → Nat → Nat → List NO × List NO
  | 0, _, _, _ => ([], [])
  | f + 1, lo, hi, m => if hi ≤ m then ([⟨(lo : Int), (hi : Int)⟩], []) else if m ≤ lo then ([], [⟨(lo : Int), (hi : Int)⟩]) else
      ((fallF f lo (lo + spl (hi - lo)) m).1 ++ (fallF f (lo + spl (hi - lo)) hi m).1, (fallF f lo (lo + spl (hi - lo)) m).2 ++ (fallF f (lo + spl (hi - lo)) hi m).2)
theorem fall_len (f : Nat) : ∀ (lo hi m : Nat), hi - lo ≤ f → hi ≤ 256 → lo < hi → (fallF f lo hi m).1.length + (fallF f lo hi m).2.length ≤ hi - lo := by
  induction f with
  | zero => intro lo hi m h; simp [fallF]
  | succ f ih =>
    intro lo hi m h h1 h2
    simp only [fallF]
    by_cases ha : hi ≤ m
    · rw [if_pos ha]; simp; omega
    · rw [if_neg ha]
      by_cases hb : m ≤ lo
      · rw [if_pos hb]; simp; omega
      · rw [if_neg hb]
        have hs := spl_lt (n := hi - lo) (by omega) (by omega)
        have i1 := ih lo (lo + spl (hi - lo)) m (by omega) (by omega) (by omega)
        have i2 := ih (lo + spl (hi - lo)) hi m (by omega) (by omega) (by omega)
        simp only [List.length_append]
        omega
theorem fall_l (f : Nat) : ∀ (k lo hi m : Nat) (a b : List NO), hi - lo ≤ f → lo < hi → hi ≤ 256 → f + 9 ≤ k → a.length + (hi - lo) ≤ 1000000 → b.length + (hi - lo) ≤ 1000000 → impl_fall.f k (lo : Int) (hi : Int) (m : Int) a b = some (a ++ (fallF f lo hi m).1, b ++ (fallF f lo hi m).2) := by
  induction f with
  | zero => intro k lo hi m a b h h0; omega
  | succ f ih =>
    intro k lo hi m a b h h0 h1 hk ha hb
    obtain ⟨k, rfl⟩ : ∃ m, k = m + 1 := ⟨k - 1, by omega⟩
    simp only [impl_fall.f, fallF]
    by_cases c1 : hi ≤ m
    · rw [if_pos (by omega), if_pos (by omega), if_pos c1]
      simp
    · rw [if_neg (by omega), if_neg c1]
      by_cases c2 : m ≤ lo
      · rw [if_pos (by omega), if_pos (by omega), if_pos c2]
        simp
      · rw [if_neg (by omega), if_neg c2]
        have hs := spl_lt (n := hi - lo) (by omega) (by omega)
        have l1 := fall_len f lo (lo + spl (hi - lo)) m (by omega) (by omega) (by omega)
        rw [halves (by omega) (by omega) h1]
        simp only [Option.bind_some]
        rw [ih _ _ _ _ _ _ (by omega) (by omega) (by omega) (by omega) (by omega) (by omega)]
        simp only [Option.bind_some]
        rw [ih _ _ _ _ _ _ (by omega) (by omega) (by omega) (by omega) (by simp; omega) (by simp; omega)]
        simp
def grow (m n : Nat) : List NO × List NO := fallF n 0 n m
theorem impl_nodes {k m n : Nat} (hk : 300 ≤ k) (h0 : 0 < n) (h : n ≤ 256) : impl_growthNodes.f k (m : Int) (n : Int) = some (grow m n) := by
  unfold impl_growthNodes.f
  have := fall_l n k 0 n m [] [] (by omega) h0 h (by omega) (by simp; omega) (by simp; omega)
  rw [show ((0 : Nat) : Int) = 0 by rfl] at this
  rw [this]
  rfl
theorem rests_l (f : Nat) : ∀ (k lo hi m n : Nat), hi - lo ≤ f → lo < hi → hi ≤ n → n ≤ 256 → 2 * f + 10 ≤ k → spec_l3Rests.f k (lo : Int) (hi : Int) (m : Int) (n : Int) = some (((fallF f lo hi m).2.length : Nat) : Int) := by
  induction f with
  | zero => intro k lo hi m n h h0; omega
  | succ f ih =>
    intro k lo hi m n h h0 h1 h2 hk
    obtain ⟨k, rfl⟩ : ∃ m, k = m + 2 := ⟨k - 2, by omega⟩
    simp only [spec_l3Rests.f, spec_l3Rests.j0, fallF]
    by_cases c1 : hi ≤ m
    · rw [if_pos (by omega), if_pos c1]
      simp
    · rw [if_neg (by omega), if_neg c1]
      by_cases c2 : m ≤ lo
      · rw [if_pos c2, if_neg (by simp; omega), if_pos (by omega)]
        simp
      · rw [if_neg c2, if_neg (by simp; omega), if_neg (by omega)]
        have hs := spl_lt (n := hi - lo) (by omega) (by omega)
        have l1 := fall_len f lo (lo + spl (hi - lo)) m (by omega) (by omega) (by omega)
        have l2 := fall_len f (lo + spl (hi - lo)) hi m (by omega) (by omega) (by omega)
        rw [show wrap64 ((hi : Int) - (lo : Int)) = ((hi - lo : Nat) : Int) by unfold wrap64; omega, spec_split (by omega) (by omega) (by omega)]
        simp only [Option.bind_some]
        rw [show wrap64 ((lo : Int) + ((spl (hi - lo) : Nat) : Int)) = ((lo + spl (hi - lo) : Nat) : Int) by unfold wrap64; omega]
        rw [ih _ _ _ _ _ (by omega) (by omega) (by omega) (by omega) (by omega)]
        simp only [Option.bind_some]
        rw [ih _ _ _ _ _ (by omega) (by omega) (by omega) (by omega) (by omega)]
        simp only [Option.bind_some, List.length_append]
        congr 1
        unfold wrap64
        omega
theorem pc_add : ∀ e : Fin 8, ∀ x : Fin 129, x.val < 2 ^ e.val → pc 9 (2 ^ e.val + x.val) = 1 + pc 9 x.val := by decide +kernel
theorem fall_zero (f : Nat) : ∀ (lo hi m : Nat), hi - lo ≤ f → hi ≤ 256 → lo < hi → m ≤ lo → (fallF f lo hi m).1.length = 0 := by
  intro lo hi m h h1 h2 h3
  obtain ⟨f, rfl⟩ : ∃ g, f = g + 1 := ⟨f - 1, by omega⟩
  simp only [fallF]
  rw [if_neg (by omega), if_pos h3]
  rfl
theorem fall_one (f : Nat) : ∀ (lo hi m : Nat), hi - lo ≤ f → lo < hi → hi ≤ m → (fallF f lo hi m).1.length = 1 := by
  intro lo hi m h h1 h3
  obtain ⟨f, rfl⟩ : ∃ g, f = g + 1 := ⟨f - 1, by omega⟩
  simp only [fallF]
  rw [if_pos h3]
  rfl
theorem fall_old (f : Nat) : ∀ (lo hi m : Nat), hi - lo ≤ f → hi ≤ 256 → lo < m → m < hi → (fallF f lo hi m).1.length = popc (m - lo) := by
  induction f with
  | zero => intro lo hi m h h1 h2 h3; omega
  | succ f ih =>
    intro lo hi m h h1 h2 h3
    simp only [fallF]
    rw [if_neg (by omega), if_neg (by omega)]
    obtain ⟨e, he, h4, h5, h6⟩ := spl_is (n := hi - lo) (by omega) (by omega)
    have hs := spl_lt (n := hi - lo) (by omega) (by omega)
    rw [Nat.pow_succ] at h5
    simp only [List.length_append]
    rcases Nat.lt_trichotomy m (lo + spl (hi - lo)) with c | c | c
    · rw [ih _ _ _ (by omega) (by omega) h2 c, fall_zero f _ _ _ (by omega) (by omega) (by omega) (by omega)]
      rfl
    · rw [fall_one f _ _ _ (by omega) (by omega) (by omega), fall_zero f _ _ _ (by omega) (by omega) (by omega) (by omega)]
      have := pc_add ⟨e, by omega⟩ ⟨0, by omega⟩ (Nat.pow_pos (by omega))
      simp only [Nat.add_zero] at this
      rw [show m - lo = 2 ^ e by omega, popc, this]
      rfl
    · rw [fall_one f _ _ _ (by omega) (by omega) (by omega), ih _ _ _ (by omega) h1 c h3]
      have h7 : m - (lo + spl (hi - lo)) < 2 ^ e := by omega
      have h8 : (2 : Nat) ^ e ≤ 2 ^ 7 := Nat.pow_le_pow_right (by omega) h6
      have := pc_add ⟨e, by omega⟩ ⟨m - (lo + spl (hi - lo)), by omega⟩ h7
      rw [show m - lo = 2 ^ e + (m - (lo + spl (hi - lo))) by omega, popc, popc, this]
def growLen (m n : Int) : Int := if 0 ≤ m ∧ m ≤ n ∧ n ≤ 256 then (if m = 0 ∨ m = n then 0 else (((grow m.toNat n.toNat).1.length + (grow m.toNat n.toNat).2.length : Nat) : Int)) else -1
theorem impl_growLen {k : Nat} (hk : 300 ≤ k) (m n : Int) : impl_GrowthLen.f k m n = some (growLen m n) := by
  unfold impl_GrowthLen.f impl_mayGrow.f growLen
  rw [impl_in]
  simp only [Option.bind_some]
  by_cases h : 0 ≤ n ∧ n ≤ 256
  · rw [if_pos (by simp; omega), impl_in]
    simp only [Option.bind_some]
    by_cases h2 : 0 ≤ m ∧ m ≤ n
    · rw [if_pos (by simp; omega), if_pos (show 0 ≤ m ∧ m ≤ n ∧ n ≤ 256 by omega)]
      by_cases c : m = 0
      · rw [if_pos c, if_pos (Or.inl c)]
      · rw [if_neg c]
        by_cases c2 : m = n
        · rw [if_pos c2, if_pos (Or.inr c2)]
        · rw [if_neg c2, if_neg (by omega)]
          have := impl_nodes (m := m.toNat) (n := n.toNat) hk (by omega) (by omega)
          rw [show ((m.toNat : Nat) : Int) = m by omega, show ((n.toNat : Nat) : Int) = n by omega] at this
          rw [this]
          simp only [Option.bind_some]
          have := fall_len n.toNat 0 n.toNat m.toNat (by omega) (by omega) (by omega)
          unfold grow
          generalize (fallF n.toNat 0 n.toNat m.toNat).1.length = A at *
          generalize (fallF n.toNat 0 n.toNat m.toNat).2.length = B at *
          unfold wrap64
          refine congrArg some ?_
          omega
    · rw [if_neg (by simp; omega), if_neg (by omega)]
  · rw [if_neg (by simp; omega), if_neg (show ¬ (0 ≤ m ∧ m ≤ n ∧ n ≤ 256) by omega)]
    rfl
theorem spec_growLen {k : Nat} (hk : 600 ≤ k) (m n : Int) : spec_GrowthLen.f k m n = some (growLen m n) := by
  obtain ⟨k, rfl⟩ : ∃ m, k = m + 1 := ⟨k - 1, by omega⟩
  unfold spec_GrowthLen.f spec_l3Sizes.f growLen
  rw [spec_in]
  simp only [Option.bind_some]
  by_cases h2 : 0 ≤ m ∧ m ≤ n
  · rw [if_pos (by simp; omega)]
    simp only [Option.bind_some]
    by_cases h : n ≤ 256
    · rw [if_pos (by simp; omega), if_pos (show 0 ≤ m ∧ m ≤ n ∧ n ≤ 256 by omega)]
      by_cases c : m = 0
      · rw [if_pos c, if_pos (Or.inl c)]
        simp [spec_GrowthLen.j0]
      · rw [if_neg c]
        by_cases c2 : m = n
        · rw [if_pos (Or.inr c2)]
          simp [spec_GrowthLen.j0, c2]
        · rw [if_neg (by omega)]
          have e0 : (m == n) = false := by simpa using c2
          simp only [spec_GrowthLen.j0, e0]
          rw [if_neg (by simp)]
          have h1 := rests_l n.toNat k 0 n.toNat m.toNat n.toNat (by omega) (by omega) (by omega) (by omega) (by omega)
          have h3 := spec_count (k := k) (n := m.toNat) (by omega) (by omega)
          rw [show ((m.toNat : Nat) : Int) = m by omega] at h1 h3
          rw [show ((n.toNat : Nat) : Int) = n by omega, show ((0 : Nat) : Int) = 0 by rfl] at h1
          rw [h3]
          simp only [Option.bind_some]
          rw [h1]
          simp only [Option.bind_some]
          have h4 := fall_old n.toNat 0 n.toNat m.toNat (by omega) (by omega) (by omega) (by omega)
          have := fall_len n.toNat 0 n.toNat m.toNat (by omega) (by omega) (by omega)
          rw [show m.toNat - 0 = m.toNat by omega] at h4
          unfold grow
          generalize (fallF n.toNat 0 n.toNat m.toNat).1.length = A at *
          generalize (fallF n.toNat 0 n.toNat m.toNat).2.length = B at *
          unfold wrap64
          refine congrArg some ?_
          omega
    · rw [if_neg (by simp; omega), if_neg (by omega)]
  · rw [if_neg (by simp; omega), if_neg (show ¬ (0 ≤ m ∧ m ≤ n ∧ n ≤ 256) by omega)]
    rfl
end Go.Proofs.Ytflckegggopdnaa.Q
end
section
namespace Go.Proofs.Ytflckegggopdnaa.Q
open Go.RowKit Go.Proofs.Ytflckegggopdnaa.B Go.Proofs.YtflckegggopdnaaW.PrintWords Go.Proofs.YtflckegggopdnaaW.PrintLast Go.Proofs.YtflckegggopdnaaW.PrintMore
abbrev SD := S29
abbrev LD := S24
theorem step64 {i : Nat} (h : i < 4611686018427387904) : wrap64 ((i : Int) + 1) = ((i + 1 : Nat) : Int) := by unfold wrap64; omega
theorem rdOf_nat {l : List ByteArray} {i : Nat} (h : i < l.length) : rdOf ByteArray.empty l (i : Int) = l[i] := by simp [rdOf, List.getD, List.getElem?_eq_getElem h]
def conv (d : LD) : SD := ⟨d.f0, d.f1, d.f2, d.f3⟩
end Go.Proofs.Ytflckegggopdnaa.Q
end
section
namespace Go.Proofs.Ytflckegggopdnaa.Q
open Go.RowKit Go.Proofs.Ytflckegggopdnaa.B Go.Proofs.YtflckegggopdnaaW.PrintWords Go.Proofs.YtflckegggopdnaaW.PrintLast Go.Proofs.YtflckegggopdnaaW.PrintMore
set_option linter.unusedVariables false
def ahead : List NO → Int → Nat
  | [], _ => 0
  | x :: xs, a => (if x.f0 < a then 1 else 0) + ahead xs a
def Sorted (xs : List NO) : Prop := xs.Pairwise (fun x y => x.f0 < y.f0)
theorem ahead_none {xs : List NO} {a : Int} (h : ∀ x ∈ xs, a ≤ x.f0) : ahead xs a = 0 := by
  induction xs with
  | nil => rfl
  | cons x xs ih =>
    have h1 := h x List.mem_cons_self
    simp only [ahead]
    rw [if_neg (by omega), ih (fun y hy => h y (List.mem_cons_of_mem _ hy))]
theorem ahead_at {xs : List NO} (hs : Sorted xs) : ∀ (j : Nat) (hj : j < xs.length), ahead xs xs[j].f0 = j := by
  induction xs with
  | nil => intro j hj; exact absurd hj (by simp)
  | cons x xs ih =>
    intro j hj
    obtain ⟨h1, h2⟩ := List.pairwise_cons.1 hs
    cases j with
    | zero =>
      simp only [ahead, List.getElem_cons_zero]
      rw [if_neg (by omega), ahead_none (fun y hy => Int.le_of_lt (h1 y hy))]
    | succ j =>
      have hj' : j < xs.length := by simpa using hj
      simp only [ahead, List.getElem_cons_succ]
      rw [if_pos (h1 _ (List.getElem_mem hj')), ih h2 j hj']
      omega
theorem ahead_lt {xs : List NO} (hs : Sorted xs) {x : NO} (hx : x ∈ xs) : ∃ h : ahead xs x.f0 < xs.length, xs[ahead xs x.f0] = x := by
  obtain ⟨j, hj, e⟩ := List.getElem_of_mem hx
  have := ahead_at hs j hj
  rw [e] at this
  subst this
  exact ⟨hj, e⟩
theorem fall_in (f : Nat) : ∀ (lo hi m : Nat), hi - lo ≤ f → hi ≤ 256 → lo < hi →
    (∀ x ∈ (fallF f lo hi m).1, (lo : Int) ≤ x.f0 ∧ x.f0 < x.f1 ∧ x.f1 ≤ (hi : Int) ∧ x.f1 ≤ (m : Int)) ∧ (∀ x ∈ (fallF f lo hi m).2, (lo : Int) ≤ x.f0 ∧ x.f0 < x.f1 ∧ x.f1 ≤ (hi : Int) ∧ (m : Int) ≤ x.f0) := by
  induction f with
  | zero => intro lo hi m h h1 h2; omega
  | succ f ih =>
    intro lo hi m h h1 h2
    simp only [fallF]
    by_cases ha : hi ≤ m
    · rw [if_pos ha]
      refine ⟨fun x hx => ?_, fun x hx => absurd hx (by simp)⟩
      rw [List.mem_singleton.1 hx]
      show (lo : Int) ≤ (lo : Int) ∧ (lo : Int) < (hi : Int) ∧ (hi : Int) ≤ (hi : Int) ∧ (hi : Int) ≤ (m : Int)
      omega
    · rw [if_neg ha]
      by_cases hb : m ≤ lo
      · rw [if_pos hb]
        refine ⟨fun x hx => absurd hx (by simp), fun x hx => ?_⟩
        rw [List.mem_singleton.1 hx]
        show (lo : Int) ≤ (lo : Int) ∧ (lo : Int) < (hi : Int) ∧ (hi : Int) ≤ (hi : Int) ∧ (m : Int) ≤ (lo : Int)
        omega
      · rw [if_neg hb]
        have hs := spl_lt (n := hi - lo) (by omega) (by omega)
        obtain ⟨i1, i2⟩ := ih lo (lo + spl (hi - lo)) m (by omega) (by omega) (by omega)
        obtain ⟨i3, i4⟩ := ih (lo + spl (hi - lo)) hi m (by omega) (by omega) (by omega)
        refine ⟨fun x hx => ?_, fun x hx => ?_⟩
        · rcases List.mem_append.1 hx with hx | hx
          · have := i1 x hx; omega
          · have := i3 x hx; omega
        · rcases List.mem_append.1 hx with hx | hx
          · have := i2 x hx; omega
          · have := i4 x hx; omega
theorem fall_sorted (f : Nat) : ∀ (lo hi m : Nat), hi - lo ≤ f → hi ≤ 256 → lo < hi → Sorted (fallF f lo hi m).1 ∧ Sorted (fallF f lo hi m).2 := by
  induction f with
  | zero => intro lo hi m h h1 h2; omega
  | succ f ih =>
    intro lo hi m h h1 h2
    simp only [fallF]
    by_cases ha : hi ≤ m
    · rw [if_pos ha]; exact ⟨List.pairwise_singleton _ _, List.Pairwise.nil⟩
    · rw [if_neg ha]
      by_cases hb : m ≤ lo
      · rw [if_pos hb]; exact ⟨List.Pairwise.nil, List.pairwise_singleton _ _⟩
      · rw [if_neg hb]
        have hs := spl_lt (n := hi - lo) (by omega) (by omega)
        obtain ⟨i1, i2⟩ := fall_in f lo (lo + spl (hi - lo)) m (by omega) (by omega) (by omega)
        obtain ⟨i3, i4⟩ := fall_in f (lo + spl (hi - lo)) hi m (by omega) (by omega) (by omega)
        obtain ⟨s1, s2⟩ := ih lo (lo + spl (hi - lo)) m (by omega) (by omega) (by omega)
        obtain ⟨s3, s4⟩ := ih (lo + spl (hi - lo)) hi m (by omega) (by omega) (by omega)
        exact ⟨List.pairwise_append.2 ⟨s1, s3, fun a ha b hb => by have := i1 a ha; have := i3 b hb; omega⟩, List.pairwise_append.2 ⟨s2, s4, fun a ha b hb => by have := i2 a ha; have := i4 b hb; omega⟩⟩
def gnodes (m n : Nat) : List NO := (grow m n).1 ++ (grow m n).2
theorem gnodes_sorted {m n : Nat} (h0 : 0 < n) (h : n ≤ 256) : Sorted (gnodes m n) := by
  obtain ⟨i1, i2⟩ := fall_in n 0 n m (by omega) h h0
  obtain ⟨s1, s2⟩ := fall_sorted n 0 n m (by omega) h h0
  exact List.pairwise_append.2 ⟨s1, s2, fun a ha b hb => by have := i1 a ha; have := i2 b hb; omega⟩
theorem gnodes_len {m n : Nat} (h0 : 0 < n) (h : n ≤ 256) : (gnodes m n).length ≤ n := by
  have := fall_len n 0 n m (by omega) h h0
  unfold gnodes grow
  rw [List.length_append]
  omega
def putAll : List NO → List SD → MapD → MapD
  | x :: xs, p :: ps, M => putAll xs ps ((x, p) :: M)
  | _, _, M => M
theorem look_other (xs : List NO) : ∀ (ps : List SD) (M : MapD) (a b : Int), (∀ x ∈ xs, ¬ (x.f0 = a ∧ x.f1 = b)) → lookD (putAll xs ps M) a b = lookD M a b := by
  induction xs with
  | nil => intro ps M a b _; rfl
  | cons x xs ih =>
    intro ps M a b h
    cases ps with
    | nil => rfl
    | cons p ps =>
      simp only [putAll]
      rw [ih ps _ a b (fun y hy => h y (List.mem_cons_of_mem _ hy))]
      simp only [lookD]
      rw [if_neg (h x List.mem_cons_self)]
theorem look_at {xs : List NO} (hs : Sorted xs) : ∀ (ps : List SD) (M : MapD) (j : Nat) (hj : j < xs.length) (hp : j < ps.length), lookD (putAll xs ps M) xs[j].f0 xs[j].f1 = some ps[j] := by
  induction xs with
  | nil => intro ps M j hj; exact absurd hj (by simp)
  | cons x xs ih =>
    intro ps M j hj hp
    obtain ⟨h1, h2⟩ := List.pairwise_cons.1 hs
    cases ps with
    | nil => exact absurd hp (by simp)
    | cons p ps =>
      simp only [putAll]
      cases j with
      | zero =>
        simp only [List.getElem_cons_zero]
        rw [look_other xs ps _ _ _ (fun y hy hh => by have := h1 y hy; omega)]
        simp [lookD]
      | succ j =>
        simp only [List.getElem_cons_succ]
        exact ih h2 ps _ j (by simpa using hj) (by simpa using hp)
def given (m n : Nat) (P : List SD) (lo : Nat) : SD := P.getD (ahead (gnodes m n) (lo : Int)) ⟨0, 0, 0, 0⟩
theorem look_given {m n : Nat} (h0 : 0 < n) (h : n ≤ 256) {P : List SD} (hP : P.length = (gnodes m n).length) {a b : Nat} (hx : (⟨(a : Int), (b : Int)⟩ : NO) ∈ gnodes m n) : lookD (putAll (gnodes m n) P []) (a : Int) (b : Int) = some (given m n P a) := by
  obtain ⟨hj, e⟩ := ahead_lt (gnodes_sorted h0 h) hx
  have hj' : ahead (gnodes m n) (a : Int) < (gnodes m n).length := hj
  have e' : (gnodes m n)[ahead (gnodes m n) (a : Int)] = (⟨(a : Int), (b : Int)⟩ : NO) := e
  have := look_at (gnodes_sorted h0 h) P [] (ahead (gnodes m n) (a : Int)) hj' (by omega)
  rw [e'] at this
  rw [this]
  unfold given
  rw [List.getD, List.getElem?_eq_getElem (by omega)]
  rfl
theorem look_over {m n : Nat} (h0 : 0 < n) (h : n ≤ 256) (P : List SD) {a b : Nat} (h1 : a < m) (h2 : m < b) : lookD (putAll (gnodes m n) P []) (a : Int) (b : Int) = none := by
  obtain ⟨i1, i2⟩ := fall_in n 0 n m (by omega) h h0
  rw [look_other _ _ _ _ _ (fun x hx hh => ?_)]
  · rfl
  · rcases List.mem_append.1 hx with hx | hx
    · have := i1 x hx; omega
    · have := i2 x hx; omega
end Go.Proofs.Ytflckegggopdnaa.Q
end
section
namespace Go.Proofs.Ytflckegggopdnaa.Q
open Go.RowKit Go.Proofs.Ytflckegggopdnaa.B Go.Proofs.YtflckegggopdnaaW.PrintWords Go.Proofs.YtflckegggopdnaaW.PrintLast Go.Proofs.YtflckegggopdnaaW.PrintMore
abbrev D4 := Int × Int × Int × Int
def rot (n : Int) (x : Int) : Int := Go.bits .or .u64 (shl .u64 x n) (shr .u64 x (64 - n))
def xr (x y : Int) : Int := Go.bits .xor .u64 x y
def wr (x : Int) : Int := IntKind.u64.wrap x
def kc : Int := 12620524952350641003
def hbl : Nat → Int → Int → Int → Int → Int → D4
  | 0, a, b, c, d, _ => (a, b, c, d)
  | n + 1, a, b, c, d, k =>
    hbl n (rot 21 (xr b (wr (c + rot 39 (xr d (wr (wr (a + b) + wr (k + kc)))))))) (wr (c + rot 39 (xr d (wr (wr (a + b) + wr (k + kc)))))) (rot 39 (xr d (wr (wr (a + b) + wr (k + kc))))) (wr (wr (a + b) + wr (k + kc))) (wr (k + kc))
def out4 (s0 s1 s2 s3 : Int) (r : D4) : D4 := (xr r.1 s0, xr r.2.1 s1, xr r.2.2.1 s2, xr r.2.2.2 s3)
def hb (s x : D4) : D4 := out4 s.1 s.2.1 s.2.2.1 s.2.2.2 (hbl 10 (xr s.1 x.1) (xr s.2.1 x.2.1) (xr s.2.2.1 x.2.2.1) (xr s.2.2.2 x.2.2.2) 0)
theorem wrap_lit (n : Nat) (h : n < 18446744073709551616) : IntKind.u64.wrap (n : Int) = n := by rw [IntKind.wrap_u64]; omega
theorem and63 (n : Nat) (h : n < 64) : Go.bits .and .u64 (n : Int) 63 = n := by
  have := (bits_nat .u64 64 (by decide) wraps_u64 n 63 (by omega) (by decide)).1
  rw [show ((63 : Nat) : Int) = 63 from rfl] at this
  rw [this, show n &&& 63 = n % 64 from Nat.and_two_pow_sub_one_eq_mod n 6]
  omega
theorem rl39 (x : Int) : bits_RotateLeft64.f x 39 = some (rot 39 x) := by
  unfold bits_RotateLeft64.f
  rw [show IntKind.u64.wrap 39 = ((39 : Nat) : Int) from wrap_lit 39 (by decide), and63 39 (by decide), show (64 : Int) - ((39 : Nat) : Int) = ((25 : Nat) : Int) from rfl, wrap_lit 25 (by decide), if_pos (by decide), if_pos (by decide)]
  rfl
theorem rl21 (x : Int) : bits_RotateLeft64.f x 21 = some (rot 21 x) := by
  unfold bits_RotateLeft64.f
  rw [show IntKind.u64.wrap 21 = ((21 : Nat) : Int) from wrap_lit 21 (by decide), and63 21 (by decide), show (64 : Int) - ((21 : Nat) : Int) = ((43 : Nat) : Int) from rfl, wrap_lit 43 (by decide), if_pos (by decide), if_pos (by decide)]
  rfl
theorem wr_sum (a b k : Int) : IntKind.u64.wrap (a + IntKind.u64.wrap (b + k)) = wr (wr (a + b) + k) := by
  unfold wr
  simp only [IntKind.wrap_u64]
  omega
theorem impl_block_l (n : Nat) : ∀ (k : Nat) (a b c d kk : Int) (i : Nat) (s0 s1 s2 s3 : Int), i + n = 10 → n < k → impl_HashBlock.l0 k a b c d kk (i : Int) s0 s1 s2 s3 = some (out4 s0 s1 s2 s3 (hbl n a b c d kk)) := by
  induction n with
  | zero =>
    intro k a b c d kk i s0 s1 s2 s3 hi hk
    obtain ⟨k, rfl⟩ : ∃ m, k = m + 1 := ⟨k - 1, by omega⟩
    simp only [impl_HashBlock.l0]
    rw [if_neg (by omega)]
    rfl
  | succ n ih =>
    intro k a b c d kk i s0 s1 s2 s3 hi hk
    obtain ⟨k, rfl⟩ : ∃ m, k = m + 1 := ⟨k - 1, by omega⟩
    simp only [impl_HashBlock.l0]
    rw [if_pos (by omega), wr_sum, rl39]
    simp only [Option.bind_some]
    rw [rl21]
    simp only [Option.bind_some]
    rw [show wrap64 ((i : Int) + 1) = ((i + 1 : Nat) : Int) by unfold wrap64; omega]
    rw [ih k _ _ _ _ _ (i + 1) s0 s1 s2 s3 (by omega) (by omega)]
    rfl
theorem impl_block {k : Nat} (hk : 11 ≤ k) (a b c d x y z u : Int) : impl_HashBlock.f k a b c d x y z u = some (hb (a, b, c, d) (x, y, z, u)) := by
  unfold impl_HashBlock.f
  exact impl_block_l 10 k _ _ _ _ 0 0 a b c d (by omega) (by omega)
def be8 (v : Int) : List Int := [(v / 72057594037927936) % 256, (v / 281474976710656) % 256, (v / 1099511627776) % 256, (v / 4294967296) % 256, (v / 16777216) % 256, (v / 65536) % 256, (v / 256) % 256, v % 256]
theorem be8_length (v : Int) : (be8 v).length = 8 := rfl
theorem app64 (l : List Int) (v : Int) (h : l.length + 8 < 140737488355328) : binary_bigEndian_AppendUint64.f l v = some (l ++ be8 v) := by
  unfold binary_bigEndian_AppendUint64.f
  simp only [Option.bind_some]
  rw [if_pos (by simpa using h)]
  rfl
def be32 (d : D4) : List Int := be8 d.1 ++ be8 d.2.1 ++ be8 d.2.2.1 ++ be8 d.2.2.2
theorem be32_length (d : D4) : (be32 d).length = 32 := rfl
theorem str_append (a b : List Int) : strOfNums a ++ strOfNums b = strOfNums (a ++ b) := by
  apply ByteArray.ext
  simp [strOfNums]
theorem str_size (a : List Int) : (strOfNums a).size = a.length := strOfNums_size a
theorem impl_hbytes_l (n : Nat) : ∀ (k : Nat) (acc l : List Int) (i : Nat), l.length = i + n → n < k → acc.length + 8 * n < 1000 → l.length < 1000 → impl_HashBytes.l0 k acc l (l.length : Int) (i : Int) = some (strOfNums (acc ++ (l.drop i).flatMap be8)) := by
  induction n with
  | zero =>
    intro k acc l i hl hk _ _
    obtain ⟨k, rfl⟩ : ∃ m, k = m + 1 := ⟨k - 1, by omega⟩
    simp only [impl_HashBytes.l0]
    rw [if_neg (by omega), List.drop_of_length_le (by omega)]
    simp
  | succ n ih =>
    intro k acc l i hl hk ha hll
    obtain ⟨k, rfl⟩ : ∃ m, k = m + 1 := ⟨k - 1, by omega⟩
    simp only [impl_HashBytes.l0]
    rw [if_pos (by omega), if_pos (by omega), if_pos (by omega), app64 _ _ (by omega)]
    simp only [Option.bind_some]
    rw [show wrap64 ((i : Int) + 1) = ((i + 1 : Nat) : Int) by unfold wrap64; omega, ih k _ l (i + 1) (by omega) (by omega) (by simp [be8_length]; omega) hll]
    have hi : i < l.length := by omega
    have e : rd l (i : Int) = l[i] := by simp [rd, List.getD, List.getElem?_eq_getElem hi]
    rw [List.drop_eq_getElem_cons hi, List.flatMap_cons, e, List.append_assoc]
theorem impl_hbytes {k : Nat} (hk : 5 ≤ k) (a b c d : Int) : impl_HashBytes.f k a b c d = some (strOfNums (be32 (a, b, c, d))) := by
  unfold impl_HashBytes.f
  simp only [Option.bind_some]
  have := impl_hbytes_l 4 k [] [a, b, c, d] 0 rfl (by omega) (by simp) (by simp)
  rw [List.nil_append] at this
  rw [show (([a, b, c, d] : List Int).drop 0).flatMap be8 = be32 (a, b, c, d) by simp [be32]] at this
  exact this
end Go.Proofs.Ytflckegggopdnaa.Q
end
section
namespace Go.Proofs.Ytflckegggopdnaa.Q
open Go.RowKit Go.Proofs.Ytflckegggopdnaa.B Go.Proofs.YtflckegggopdnaaW.PrintWords Go.Proofs.YtflckegggopdnaaW.PrintLast Go.Proofs.YtflckegggopdnaaW.PrintMore
def Bytes8 (l : List Int) : Prop := ∀ x ∈ l, 0 ≤ x ∧ x ≤ 255
theorem bytesOf_8 (s : ByteArray) : Bytes8 (bytesOf s) := by
  intro x hx
  simp only [bytesOf, List.mem_map] at hx
  obtain ⟨b, _, rfl⟩ := hx
  have := b.toNat_lt
  omega
theorem be8_8 (v : Int) : Bytes8 (be8 v) := by
  intro x hx
  simp only [be8, List.mem_cons, List.not_mem_nil, or_false] at hx
  rcases hx with rfl | rfl | rfl | rfl | rfl | rfl | rfl | rfl <;> omega
theorem Bytes8.append {a b : List Int} (ha : Bytes8 a) (hb : Bytes8 b) : Bytes8 (a ++ b) := fun x hx => (List.mem_append.1 hx).elim (ha x) (hb x)
theorem Bytes8.drop {a : List Int} (ha : Bytes8 a) (n : Nat) : Bytes8 (a.drop n) := fun x hx => ha x (List.mem_of_mem_drop hx)
theorem Bytes8.take {a : List Int} (ha : Bytes8 a) (n : Nat) : Bytes8 (a.take n) := fun x hx => ha x (List.mem_of_mem_take hx)
theorem rd_nat {l : List Int} {i : Nat} (h : i < l.length) : rd l (i : Int) = l[i] := by simp [rd, List.getD, List.getElem?_eq_getElem h]
theorem bt_nat {s : ByteArray} {i : Nat} (h : i < (bytesOf s).length) : bt s (i : Int) = (bytesOf s)[i] := by rw [← rd_bytesOf, rd_nat h]
def w8 (l : List Int) : Int := (l.take 8).foldl (fun w b => w * 256 + b) 0
theorem eight {l : List Int} (h : 8 ≤ l.length) : ∃ a b c d e f g i r, l = a :: b :: c :: d :: e :: f :: g :: i :: r := by
  match l, h with
  | a :: b :: c :: d :: e :: f :: g :: i :: r, _ => exact ⟨a, b, c, d, e, f, g, i, r, rfl⟩
theorem u64_is {l : List Int} (h : 8 ≤ l.length) (hb : Bytes8 l) : binary_bigEndian_Uint64.f l = some (w8 l) := by
  obtain ⟨a, b, c, d, e, f, g, i, r, rfl⟩ := eight h
  have h0 := hb a (by simp)
  have h1 := hb b (by simp)
  have h2 := hb c (by simp)
  have h3 := hb d (by simp)
  have h4 := hb e (by simp)
  have h5 := hb f (by simp)
  have h6 := hb g (by simp)
  have h7 := hb i (by simp)
  unfold binary_bigEndian_Uint64.f
  rw [if_pos (by omega), if_pos (by omega), if_pos (by omega), if_pos (by omega), if_pos (by omega), if_pos (by omega), if_pos (by omega), if_pos (by omega)]
  simp only [rd, w8, List.take_succ_cons, List.take_zero, List.foldl_cons, List.foldl_nil, show Int.toNat 7 = 7 from rfl, show Int.toNat 6 = 6 from rfl, show Int.toNat 5 = 5 from rfl, show Int.toNat 4 = 4 from rfl, show Int.toNat 3 = 3 from rfl, show Int.toNat 2 = 2 from rfl, show Int.toNat 1 = 1 from rfl, show Int.toNat 0 = 0 from rfl, List.getD_cons_succ, List.getD_cons_zero]
  simp (disch := omega) only [u64_wrap_id, u64_or8, u64_or16, u64_or24, u64_or32, u64_or40, u64_or48, u64_or56]
  congr 1
  omega
def bareL (l : List Int) : List Int := l.filter fun x => !(x == 255)
theorem bareL_ne {x : Int} (l : List Int) (h : ¬ x = 255) : bareL (x :: l) = x :: bareL l := by simp [bareL, h]
theorem bareL_eq {x : Int} (l : List Int) (h : x = 255) : bareL (x :: l) = bareL l := by simp [bareL, h]
def zn (m : Nat) : Nat := (32 - (m + 9) % 32) % 32
def padL (l : List Int) : List Int := l ++ [128] ++ List.replicate (zn l.length) 0 ++ be8 (l.length : Int)
theorem padL_length (l : List Int) : (padL l).length = l.length + 9 + zn l.length := by simp [padL, be8_length]; omega
def hfold : Nat → List Int → D4 → D4
  | 0, _, s => s
  | n + 1, l, s => hfold n (l.drop 32) (hb s (w8 l, w8 (l.drop 8), w8 (l.drop 16), w8 (l.drop 24)))
def iv : D4 := (13971524466476933880, 3286059910148148165, 8210247237615983910, 11412903256176698835)
def hashL (l : List Int) : D4 := hfold ((padL (bareL l)).length / 32) (padL (bareL l)) iv
def hashOf (s : ByteArray) : D4 := if s.size > 20000 then (0, 0, 0, 0) else hashL (bytesOf s)
theorem digest_is {l : List Int} (h : l.length = 32) (hb : Bytes8 l) : impl_digestOf.f l = some (w8 l, w8 (l.drop 8), w8 (l.drop 16), w8 (l.drop 24)) := by
  unfold impl_digestOf.f
  rw [u64_is (by omega) hb]
  simp only [Option.bind_some]
  rw [if_pos (by omega), u64_is (by rw [List.length_drop]; omega) (hb.drop _)]
  simp only [Option.bind_some]
  rw [if_pos (by omega), u64_is (by rw [List.length_drop]; omega) (hb.drop _)]
  simp only [Option.bind_some]
  rw [if_pos (by omega), u64_is (by rw [List.length_drop]; omega) (hb.drop _)]
  simp only [Option.bind_some]
theorem w8_take (l : List Int) (m : Nat) (h : 8 ≤ m) : w8 (l.take m) = w8 l := by
  unfold w8
  rw [List.take_take, Nat.min_eq_left h]
theorem impl_fold_l (n : Nat) : ∀ (k : Nat) (l : List Int) (i : Nat) (s : D4), Bytes8 l → l.length = i + 32 * n → n + 11 < k → l.length ≤ 1000000 →
    impl_HashOf.l2 k l (i : Int) s.1 s.2.1 s.2.2.1 s.2.2.2 = some (hfold n (l.drop i) s) := by
  induction n with
  | zero =>
    intro k l i s hb hl hk hm
    obtain ⟨k, rfl⟩ : ∃ m, k = m + 1 := ⟨k - 1, by omega⟩
    simp only [impl_HashOf.l2]
    rw [if_neg (by omega)]
    rfl
  | succ n ih =>
    intro k l i s hb8 hl hk hm
    obtain ⟨k, rfl⟩ : ∃ m, k = m + 1 := ⟨k - 1, by omega⟩
    simp only [impl_HashOf.l2]
    rw [show wrap64 ((i : Int) + 32) = ((i + 32 : Nat) : Int) by unfold wrap64; omega, if_pos (by omega), if_pos (by omega), if_pos (by omega), if_pos (by omega)]
    rw [show (((i + 32 : Nat) : Int)).toNat = i + 32 from rfl, show ((i : Nat) : Int).toNat = i from rfl]
    have e : (l.take (i + 32)).drop i = (l.drop i).take 32 := by rw [List.drop_take]; congr 1; omega
    rw [e, digest_is (by rw [List.length_take, List.length_drop]; omega) ((hb8.drop _).take _)]
    simp only [Option.bind_some]
    rw [impl_block (by omega)]
    simp only [Option.bind_some]
    rw [ih k l (i + 32) _ hb8 (by omega) (by omega) hm]
    simp only [hfold, List.drop_drop, List.drop_take, w8_take _ 32 (by omega), w8_take _ (32 - 8) (by omega), w8_take _ (32 - 16) (by omega), w8_take _ (32 - 24) (by omega)]
theorem impl_pad_l (z : Nat) : ∀ (k : Nat) (x : List Int) (v : Int), Bytes8 x → (x.length + z) % 32 = 24 → z < 32 → 2000 + z < k → x.length + z ≤ 30000 →
    impl_HashOf.l1 k x v = some (hfold ((x.length + z + 8) / 32) (x ++ List.replicate z 0 ++ be8 v) iv) := by
  induction z with
  | zero =>
    intro k x v hb hz _ hk hm
    obtain ⟨k, rfl⟩ : ∃ m, k = m + 1 := ⟨k - 1, by omega⟩
    simp only [impl_HashOf.l1]
    rw [if_pos (by omega), app64 _ _ (by omega)]
    simp only [Option.bind_some]
    have := impl_fold_l ((x.length + 8) / 32) k (x ++ be8 v) 0 iv (hb.append (be8_8 v)) (by simp [be8_length]; omega) (by omega) (by simp [be8_length]; omega)
    simp only [List.drop_zero] at this
    simp only [List.replicate_zero, List.append_nil, Nat.add_zero]
    exact this
  | succ z ih =>
    intro k x v hb hz hz2 hk hm
    obtain ⟨k, rfl⟩ : ∃ m, k = m + 1 := ⟨k - 1, by omega⟩
    simp only [impl_HashOf.l1]
    rw [if_neg (by omega), if_pos (by omega)]
    rw [ih k (x ++ [0]) v (hb.append (by intro y hy; simp at hy; omega)) (by simp; omega) (by omega) (by omega) (by simp; omega)]
    simp only [List.length_append, List.length_singleton, List.append_assoc, List.replicate_succ, List.singleton_append]
    rw [show x.length + 1 + z + 8 = x.length + (z + 1) + 8 by omega]
theorem impl_bare_l (n : Nat) : ∀ (k : Nat) (s : ByteArray) (acc : List Int) (i : Nat), s.size = i + n → n + 2100 < k → s.size ≤ 20000 → acc.length ≤ i → Bytes8 acc →
    impl_HashOf.l0 k s acc (i : Int) = some (hfold ((padL (acc ++ bareL ((bytesOf s).drop i))).length / 32) (padL (acc ++ bareL ((bytesOf s).drop i))) iv) := by
  induction n with
  | zero =>
    intro k s acc i hs hk hm ha h8
    obtain ⟨k, rfl⟩ : ∃ m, k = m + 1 := ⟨k - 1, by omega⟩
    simp only [impl_HashOf.l0]
    rw [if_neg (by omega), if_pos (by omega), List.drop_of_length_le (by rw [bytesOf_length]; omega)]
    simp only [bareL, List.filter_nil, List.append_nil]
    rw [show IntKind.u64.wrap ((acc.length : Int)) = (acc.length : Int) from wrap_lit _ (by omega)]
    rw [impl_pad_l (zn acc.length) k (acc ++ [128]) _ (h8.append (by intro y hy; simp at hy; omega)) (by simp; unfold zn; omega) (by unfold zn; omega) (by unfold zn; omega) (by simp; unfold zn; omega)]
    rw [padL_length]
    unfold padL
    simp only [List.length_append, List.length_singleton]
    rw [show acc.length + 1 + zn acc.length + 8 = acc.length + 9 + zn acc.length by omega]
  | succ n ih =>
    intro k s acc i hs hk hm ha h8
    obtain ⟨k, rfl⟩ : ∃ m, k = m + 1 := ⟨k - 1, by omega⟩
    have hl : i < (bytesOf s).length := by rw [bytesOf_length]; omega
    simp only [impl_HashOf.l0]
    rw [if_pos (by omega), if_pos (by omega), bt_nat hl, show wrap64 ((i : Int) + 1) = ((i + 1 : Nat) : Int) by unfold wrap64; omega, List.drop_eq_getElem_cons hl]
    by_cases h : (bytesOf s)[i] = 255
    · rw [if_pos h, ih k s acc (i + 1) (by omega) (by omega) hm (by omega) h8, bareL_eq _ h]
    · rw [if_neg h, if_pos (by omega), ih k s _ (i + 1) (by omega) (by omega) hm (by simp; omega) (h8.append (by intro y hy; simp at hy; subst hy; exact bytesOf_8 s _ (List.getElem_mem hl))), bareL_ne _ h, List.append_assoc, List.singleton_append]
theorem impl_hash {k : Nat} (hk : 30000 ≤ k) (s : ByteArray) : impl_HashOf.f k s = some (hashOf s) := by
  unfold impl_HashOf.f hashOf
  by_cases h : s.size > 20000
  · rw [if_pos (by omega), if_pos h]
  · rw [if_neg (by omega), if_neg h]
    have := impl_bare_l s.size k s [] 0 (by omega) (by omega) (by omega) (by simp) (by intro x hx; simp at hx)
    simpa [hashL] using this
end Go.Proofs.Ytflckegggopdnaa.Q
end
section
namespace Go.Proofs.Ytflckegggopdnaa.Q
open Go.RowKit Go.Proofs.Ytflckegggopdnaa.B Go.Proofs.YtflckegggopdnaaW.PrintWords Go.Proofs.YtflckegggopdnaaW.PrintLast Go.Proofs.YtflckegggopdnaaW.PrintMore
def leafText (s : ByteArray) : ByteArray := (⟨#[0]⟩ : ByteArray) ++ s
def pairText (x y : D4) : ByteArray := strOfNums (1 :: (be32 x ++ be32 y))
def hashLeaf (s : ByteArray) : D4 := hashOf (leafText s)
def hashPair (x y : D4) : D4 := hashOf (pairText x y)
theorem impl_leafText {s : ByteArray} (h : s.size ≤ 4611686018427387904) : impl_leafText.f s = some (leafText s) := by
  unfold impl_leafText.f
  rw [if_pos (by omega)]
  rfl
theorem impl_leaf {k : Nat} (hk : 30000 ≤ k) {s : ByteArray} (h : s.size ≤ 4611686018427387904) : impl_HashLeaf.f k s = some (hashLeaf s) := by
  unfold impl_HashLeaf.f
  rw [impl_leafText h]
  simp only [Option.bind_some]
  rw [impl_hash hk]
  rfl
theorem impl_pairText {k : Nat} (hk : 9 ≤ k) (a b c d x y z u : Int) : impl_pairText.f k a b c d x y z u = some (pairText (a, b, c, d) (x, y, z, u)) := by
  unfold impl_pairText.f
  rw [impl_hbytes (by omega), impl_hbytes (by omega)]
  simp only [Option.bind_some, show (⟨#[1]⟩ : ByteArray) = strOfNums [1] from rfl, str_size, str_append]
  rw [if_pos (by simp [be32_length]), if_pos (by simp [be32_length])]
  rfl
theorem impl_pair {k : Nat} (hk : 30000 ≤ k) (a b c d x y z u : Int) : impl_HashPair.f k a b c d x y z u = some (hashPair (a, b, c, d) (x, y, z, u)) := by
  unfold impl_HashPair.f
  rw [impl_pairText (by omega)]
  simp only [Option.bind_some]
  rw [impl_hash hk]
  rfl
end Go.Proofs.Ytflckegggopdnaa.Q
end
section
namespace Go.Proofs.Ytflckegggopdnaa.Q
open Go.RowKit Go.Proofs.Ytflckegggopdnaa.B Go.Proofs.YtflckegggopdnaaW.PrintWords Go.Proofs.YtflckegggopdnaaW.PrintLast Go.Proofs.YtflckegggopdnaaW.PrintMore
theorem bs {α β : Type} {x : Option α} {v : α} {F : α → Option β} {r : Option β} (h : x = some v) (k : F v = r) : x.bind F = r := by rw [h]; exact k
def rootF : Nat → List ByteArray → D4
  | 0, _ => hashOf ⟨#[]⟩
  | _ + 1, [] => hashOf ⟨#[]⟩
  | _ + 1, [s] => hashLeaf s
  | f + 1, a :: b :: l => hashPair (rootF f ((a :: b :: l).take (spl (l.length + 2)))) (rootF f ((a :: b :: l).drop (spl (l.length + 2))))
theorem impl_root_l (f : Nat) : ∀ (k : Nat) (l : List ByteArray), l.length ≤ f → l.length ≤ 256 → (∀ s ∈ l, s.size ≤ 4611686018427387904) → 30000 + f < k → impl_rootOf.f k l = some (rootF f l) := by
  induction f with
  | zero =>
    intro k l hl _ _ hk
    obtain ⟨k, rfl⟩ : ∃ m, k = m + 1 := ⟨k - 1, by omega⟩
    obtain rfl : l = [] := List.eq_nil_of_length_eq_zero (by omega)
    simp only [impl_rootOf.f]
    rw [if_pos (by rfl)]
    exact bs (impl_hash (by omega) _) rfl
  | succ f ih =>
    intro k l hl h2 hz hk
    obtain ⟨k, rfl⟩ : ∃ m, k = m + 1 := ⟨k - 1, by omega⟩
    match l, hl, h2, hz with
    | [], _, _, _ =>
      simp only [impl_rootOf.f]
      rw [if_pos (by rfl)]
      exact bs (impl_hash (by omega) _) rfl
    | [s], _, _, hz =>
      simp only [impl_rootOf.f]
      rw [if_neg (by simp), if_pos (by simp), if_pos (by simp)]
      exact bs (impl_leaf (by omega) (hz s List.mem_cons_self)) rfl
    | a :: b :: l, hl, h2, hz =>
      simp only [List.length_cons] at hl h2
      have hs := spl_lt (n := l.length + 2) (by omega) (by omega)
      have e1 : (a :: b :: l).length = l.length + 2 := by simp
      simp only [impl_rootOf.f, rootF]
      rw [e1, if_neg (by omega), if_neg (by omega)]
      refine bs (impl_split (by omega) (by omega) (by omega)) ?_
      rw [if_pos (by omega), if_pos (by omega), Int.toNat_natCast]
      refine bs (ih k _ (by rw [List.length_take]; omega) (by rw [List.length_take]; omega) (fun s hs => hz s (List.mem_of_mem_take hs)) (by omega)) ?_
      refine bs (ih k _ (by rw [List.length_drop]; omega) (by rw [List.length_drop]; omega) (fun s hs => hz s (List.mem_of_mem_drop hs)) (by omega)) ?_
      exact bs (impl_pair (by omega) _ _ _ _ _ _ _ _) rfl
def root (l : List ByteArray) : D4 := rootF 256 l
theorem impl_root {k : Nat} (hk : 31000 ≤ k) {l : List ByteArray} (h : l.length ≤ 256) (hz : ∀ s ∈ l, s.size ≤ 4611686018427387904) : impl_rootOf.f k l = some (root l) := impl_root_l 256 k l h h hz (by omega)
end Go.Proofs.Ytflckegggopdnaa.Q
end
section
namespace Go.Proofs.Ytflckegggopdnaa.Q
open Go.RowKit Go.Proofs.Ytflckegggopdnaa.B Go.Proofs.YtflckegggopdnaaW.PrintWords Go.Proofs.YtflckegggopdnaaW.PrintLast Go.Proofs.YtflckegggopdnaaW.PrintMore
def leavesOk (l : List ByteArray) : Bool := decide (l.length ≤ 256) && l.all fun s => decide (s.size ≤ 40)
theorem drop_all {l : List ByteArray} {i : Nat} (p : ByteArray → Bool) (h : i < l.length) : (l.drop i).all p = (p l[i] && (l.drop (i + 1)).all p) := by
  rw [List.drop_eq_getElem_cons h, List.all_cons]
theorem spec_leaves_l (n : Nat) : ∀ (k : Nat) (l : List ByteArray) (i : Nat), l.length = i + n → n < k → l.length < 1099511627776 → spec_LeavesOk.l0 k l (i : Int) = some ((l.drop i).all fun s => decide (s.size ≤ 40)) := by
  induction n with
  | zero =>
    intro k l i hl hk hm
    obtain ⟨k, rfl⟩ : ∃ m, k = m + 1 := ⟨k - 1, by omega⟩
    simp only [spec_LeavesOk.l0]
    rw [if_neg (by omega), List.drop_of_length_le (by omega)]
    rfl
  | succ n ih =>
    intro k l i hl hk hm
    obtain ⟨k, rfl⟩ : ∃ m, k = m + 1 := ⟨k - 1, by omega⟩
    have hi : i < l.length := by omega
    simp only [spec_LeavesOk.l0]
    rw [if_pos (by omega), if_pos (by omega), rdOf_nat hi, step64 (by omega), drop_all _ hi]
    by_cases h : (l[i].size : Int) > 40
    · rw [if_pos h, show decide (l[i].size ≤ 40) = false from by simp; omega, Bool.false_and]
    · rw [if_neg h, ih k l (i + 1) (by omega) (by omega) hm, show decide (l[i].size ≤ 40) = true from by simp; omega, Bool.true_and]
theorem spec_leaves {k : Nat} (l : List ByteArray) (hk : l.length < k) (hm : l.length < 1099511627776) : spec_LeavesOk.f k l = some (leavesOk l) := by
  unfold spec_LeavesOk.f leavesOk
  by_cases h : (l.length : Int) > 256
  · rw [if_pos h, show decide (l.length ≤ 256) = false from by simp; omega, Bool.false_and]
  · rw [if_neg h, show decide (l.length ≤ 256) = true from by simp; omega, Bool.true_and]
    have := spec_leaves_l l.length k l 0 (by omega) hk hm
    simpa using this
theorem impl_leaves_l (n : Nat) : ∀ (k : Nat) (l : List ByteArray) (i : Nat), l.length = i + n → n < k → l.length < 1099511627776 → impl_LeavesOk.l0 k l l (l.length : Int) (i : Int) = some (decide (l.length ≤ 256) && (l.drop i).all fun s => decide (s.size ≤ 40)) := by
  induction n with
  | zero =>
    intro k l i hl hk hm
    obtain ⟨k, rfl⟩ : ∃ m, k = m + 1 := ⟨k - 1, by omega⟩
    simp only [impl_LeavesOk.l0]
    have e : decide ((l.length : Int) ≤ 256) = decide (l.length ≤ 256) := by rw [Bool.eq_iff_iff]; simp; omega
    rw [if_neg (by omega), List.drop_of_length_le (by omega), e, List.all_nil, Bool.and_true]
  | succ n ih =>
    intro k l i hl hk hm
    obtain ⟨k, rfl⟩ : ∃ m, k = m + 1 := ⟨k - 1, by omega⟩
    have hi : i < l.length := by omega
    simp only [impl_LeavesOk.l0]
    rw [if_pos (by omega), if_pos (by omega), if_pos (by omega), rdOf_nat hi, step64 (by omega), drop_all _ hi]
    by_cases h : (l[i].size : Int) > 40
    · rw [if_pos h, show decide (l[i].size ≤ 40) = false from by simp; omega, Bool.false_and, Bool.and_false]
    · rw [if_neg h, ih k l (i + 1) (by omega) (by omega) hm, show decide (l[i].size ≤ 40) = true from by simp; omega, Bool.true_and]
theorem impl_leaves {k : Nat} (l : List ByteArray) (hk : l.length < k) (hm : l.length < 1099511627776) : impl_LeavesOk.f k l = some (leavesOk l) := by
  unfold impl_LeavesOk.f leavesOk
  have := impl_leaves_l l.length k l 0 (by omega) hk hm
  simpa using this
end Go.Proofs.Ytflckegggopdnaa.Q
end
section
namespace Go.Proofs.Ytflckegggopdnaa.Q
open Go.RowKit Go.Proofs.Ytflckegggopdnaa.B Go.Proofs.YtflckegggopdnaaW.PrintWords Go.Proofs.YtflckegggopdnaaW.PrintLast Go.Proofs.YtflckegggopdnaaW.PrintMore
set_option linter.unusedVariables false
set_option linter.unusedSimpArgs false
def toSD (d : D4) : SD := ⟨d.1, d.2.1, d.2.2.1, d.2.2.2⟩
theorem copiedD {l : List SD} (h : l.length ≤ 1000000) : impl_Digest.f l = some l := by
  unfold impl_Digest.f
  rw [if_pos (by omega)]
theorem leaves_fit {l : List ByteArray} (c : leavesOk l = true) : l.length ≤ 256 ∧ ∀ s ∈ l, s.size ≤ 4611686018427387904 := by
  simp only [leavesOk, Bool.and_eq_true, decide_eq_true_eq, List.all_eq_true] at c
  exact ⟨c.1, fun s hs => Nat.le_trans (c.2 s hs) (by omega)⟩
theorem rootF_fuel (f : Nat) : ∀ (g : Nat) (l : List ByteArray), l.length ≤ f → f ≤ g → l.length ≤ 256 → rootF g l = rootF f l := by
  induction f with
  | zero =>
    intro g l h _ _
    obtain rfl : l = [] := List.eq_nil_of_length_eq_zero (by omega)
    cases g <;> rfl
  | succ f ih =>
    intro g l h hg h2
    obtain ⟨g, rfl⟩ : ∃ m, g = m + 1 := ⟨g - 1, by omega⟩
    match l, h, h2 with
    | [], _, _ => rfl
    | [s], _, _ => rfl
    | a :: b :: l, h, h2 =>
      simp only [List.length_cons] at h h2
      have hs := spl_lt (n := l.length + 2) (by omega) (by omega)
      simp only [rootF]
      rw [ih g _ (by rw [List.length_take, List.length_cons, List.length_cons]; omega) (by omega) (by rw [List.length_take, List.length_cons, List.length_cons]; omega),
        ih g _ (by rw [List.length_drop, List.length_cons, List.length_cons]; omega) (by omega) (by rw [List.length_drop, List.length_cons, List.length_cons]; omega)]
theorem root_nil : root [] = hashOf ⟨#[]⟩ := rfl
theorem root_split {l : List ByteArray} (h0 : 2 ≤ l.length) (h1 : l.length ≤ 256) : root l = hashPair (root (l.take (spl l.length))) (root (l.drop (spl l.length))) := by
  match l, h0, h1 with
  | a :: b :: l, _, h1 =>
    simp only [List.length_cons] at h1
    have hs := spl_lt (n := l.length + 2) (by omega) (by omega)
    have e1 : (a :: b :: l).length = l.length + 2 := by simp
    unfold root
    rw [e1]
    have e2 : rootF 256 (a :: b :: l) = hashPair (rootF 255 ((a :: b :: l).take (spl (l.length + 2)))) (rootF 255 ((a :: b :: l).drop (spl (l.length + 2)))) := rfl
    rw [e2, rootF_fuel 255 256 ((a :: b :: l).take (spl (l.length + 2))) (by rw [List.length_take, e1]; omega) (by omega) (by rw [List.length_take, e1]; omega),
      rootF_fuel 255 256 ((a :: b :: l).drop (spl (l.length + 2))) (by rw [List.length_drop, e1]; omega) (by omega) (by rw [List.length_drop, e1]; omega)]
end Go.Proofs.Ytflckegggopdnaa.Q
end
section
namespace Go.Proofs.Ytflckegggopdnaa.Q
open Go.RowKit Go.Proofs.Ytflckegggopdnaa.B Go.Proofs.YtflckegggopdnaaW.PrintWords Go.Proofs.YtflckegggopdnaaW.PrintLast Go.Proofs.YtflckegggopdnaaW.PrintMore
def peaksF : Nat → List ByteArray → List SD
  | 0, _ => []
  | e + 1, l => if 2 ^ e ≤ l.length then toSD (root (l.take (2 ^ e))) :: peaksF e (l.drop (2 ^ e)) else peaksF e l
def peaks (l : List ByteArray) : List SD := peaksF 9 l
theorem peaksF_more (e : Nat) : ∀ (g : Nat) (l : List ByteArray), l.length < 2 ^ e → peaksF (e + g) l = peaksF e l := by
  intro g
  induction g with
  | zero => intro l _; rfl
  | succ g ih =>
    intro l h
    rw [show e + (g + 1) = (e + g) + 1 by omega]
    unfold peaksF
    have : (2 : Nat) ^ e ≤ 2 ^ (e + g) := Nat.pow_le_pow_right (by omega) (by omega)
    rw [if_neg (by omega), ih l h]
    cases e <;> rfl
theorem peaks_nil : peaks [] = [] := by
  exact peaksF_more 0 9 [] (by simp)
theorem peaks_cons {e : Nat} {l : List ByteArray} (he : e ≤ 8) (h0 : 2 ^ e ≤ l.length) (h1 : l.length < 2 ^ (e + 1)) : peaks l = toSD (root (l.take (2 ^ e))) :: peaks (l.drop (2 ^ e)) := by
  unfold peaks
  have e1 := peaksF_more (e + 1) (8 - e) l h1
  rw [show e + 1 + (8 - e) = 9 by omega] at e1
  have h2 : (l.drop (2 ^ e)).length < 2 ^ e := by rw [List.length_drop]; rw [Nat.pow_succ] at h1; omega
  have e2 := peaksF_more e (9 - e) (l.drop (2 ^ e)) h2
  rw [show e + (9 - e) = 9 by omega] at e2
  rw [e1, e2]
  show (if 2 ^ e ≤ l.length then _ else _) = _
  rw [if_pos h0]
end Go.Proofs.Ytflckegggopdnaa.Q
end
section
namespace Go.Proofs.Ytflckegggopdnaa.Q
open Go.RowKit Go.Proofs.Ytflckegggopdnaa.B Go.Proofs.YtflckegggopdnaaW.PrintWords Go.Proofs.YtflckegggopdnaaW.PrintLast Go.Proofs.YtflckegggopdnaaW.PrintMore
set_option linter.unusedVariables false
set_option linter.unusedSimpArgs false
theorem bsk {α β : Type} {x : Option α} {v : α} {F : α → Option β} {r : Option β} (h : x = some v) (k : F v = r) : x.bind F = r := by rw [h]; exact k
def digF : Nat → Nat → Nat → Nat → (Nat → SD) → D4
  | 0, _, _, _, _ => (0, 0, 0, 0)
  | f + 1, lo, hi, m, g => if hi ≤ m ∨ m ≤ lo then ((g lo).f0, (g lo).f1, (g lo).f2, (g lo).f3) else hashPair (digF f lo (lo + spl (hi - lo)) m g) (digF f (lo + spl (hi - lo)) hi m g)
def Within (f lo hi m n : Nat) : Prop := (∀ x ∈ (fallF f lo hi m).1, x ∈ gnodes m n) ∧ ∀ x ∈ (fallF f lo hi m).2, x ∈ gnodes m n
theorem within_all (m n : Nat) : Within n 0 n m n := ⟨fun x hx => List.mem_append_left _ hx, fun x hx => List.mem_append_right _ hx⟩
theorem Within.left {f lo hi m n : Nat} (h : Within (f + 1) lo hi m n) (h1 : ¬ hi ≤ m) (h2 : ¬ m ≤ lo) : Within f lo (lo + spl (hi - lo)) m n := by
  unfold Within at h
  simp only [fallF] at h
  rw [if_neg h1, if_neg h2] at h
  exact ⟨fun x hx => h.1 x (List.mem_append_left _ hx), fun x hx => h.2 x (List.mem_append_left _ hx)⟩
theorem Within.right {f lo hi m n : Nat} (h : Within (f + 1) lo hi m n) (h1 : ¬ hi ≤ m) (h2 : ¬ m ≤ lo) : Within f (lo + spl (hi - lo)) hi m n := by
  unfold Within at h
  simp only [fallF] at h
  rw [if_neg h1, if_neg h2] at h
  exact ⟨fun x hx => h.1 x (List.mem_append_right _ hx), fun x hx => h.2 x (List.mem_append_right _ hx)⟩
theorem Within.here {f lo hi m n : Nat} (h : Within (f + 1) lo hi m n) (h1 : hi ≤ m ∨ m ≤ lo) : (⟨(lo : Int), (hi : Int)⟩ : NO) ∈ gnodes m n := by
  unfold Within at h
  simp only [fallF] at h
  by_cases c : hi ≤ m
  · rw [if_pos c] at h
    exact h.1 _ List.mem_cons_self
  · rw [if_neg c, if_pos (by omega)] at h
    exact h.2 _ List.mem_cons_self
theorem rdG_nat {l : List SD} {i : Nat} (h : i < l.length) : rd_T29 l (i : Int) = l[i] := by simp [rd_T29, List.getD, List.getElem?_eq_getElem h]
theorem okN_nat {a b : Nat} (ha : a ≤ 256) (hb : b ≤ 256) : okN (a : Int) (b : Int) := by
  unfold okN
  simp [Lit.wf, IntKind.min, IntKind.max, IntKind.signed, IntKind.bits]
  omega
theorem look_f {M : MapD} {a b : Nat} (ha : a ≤ 256) (hb : b ≤ 256) : impl_lookAt.f M (a : Int) (b : Int) = some (match lookD M (a : Int) (b : Int) with | some d => (d.f0, d.f1, d.f2, d.f3, true) | none => (0, 0, 0, 0, false)) := by
  unfold impl_lookAt.f
  rw [if_pos (okN_nat ha hb)]
  cases lookD M (a : Int) (b : Int) <;> rfl
theorem impl_digestBy (f : Nat) {m n : Nat} (h0 : 0 < n) (h : n ≤ 256) {P : List SD} (hP : P.length = (gnodes m n).length) : ∀ (k lo hi : Nat), hi - lo ≤ f → lo < hi → hi ≤ n → Within f lo hi m n → 31000 + f < k →
    impl_digestBy.f k (putAll (gnodes m n) P []) (lo : Int) (hi : Int) = some (digF f lo hi m (given m n P)) := by
  induction f with
  | zero => intro k lo hi a b; omega
  | succ f ih =>
    intro k lo hi a b c w hk
    obtain ⟨k, rfl⟩ : ∃ q, k = q + 1 := ⟨k - 1, by omega⟩
    simp only [impl_digestBy.f, digF]
    refine bsk (look_f (by omega) (by omega)) ?_
    by_cases c1 : hi ≤ m ∨ m ≤ lo
    · rw [look_given h0 h hP (w.here c1), if_pos c1]
      dsimp only
      rw [if_pos rfl]
    · rw [look_over h0 h P (a := lo) (b := hi) (by omega) (by omega), if_neg c1]
      dsimp only
      have hs := spl_lt (n := hi - lo) (by omega) (by omega)
      rw [if_neg (by simp)]
      refine bsk (halves (by omega) (by omega) (by omega)) ?_
      refine bsk (ih k _ _ (by omega) (by omega) (by omega) (w.left (by omega) (by omega)) (by omega)) (bsk (ih k _ _ (by omega) (by omega) (by omega) (w.right (by omega) (by omega)) (by omega)) ?_)
      exact bsk (impl_pair (by omega) _ _ _ _ _ _ _ _) rfl
theorem rdK_nat {l : List NO} {i : Nat} (h : i < l.length) : rd_T100 l (i : Int) = l[i] := by simp [rd_T100, List.getD, List.getElem?_eq_getElem h]
theorem known_l (n : Nat) : ∀ (k : Nat) (P : List SD) (M : MapD) (xs : List NO) (i : Nat), xs.length = i + n → xs.length ≤ 1000 → xs.length = P.length → (∀ x ∈ xs, okN x.f0 x.f1) → n < k →
    impl_known.l0 k P M xs (xs.length : Int) (i : Int) = some (putAll (xs.drop i) (P.drop i) M) := by
  induction n with
  | zero =>
    intro k P M xs i h h1 hP hx hk
    obtain ⟨k, rfl⟩ : ∃ q, k = q + 1 := ⟨k - 1, by omega⟩
    simp only [impl_known.l0]
    rw [if_neg (by omega), List.drop_of_length_le (by omega)]
    rfl
  | succ n ih =>
    intro k P M xs i h h1 hP hx hk
    obtain ⟨k, rfl⟩ : ∃ q, k = q + 1 := ⟨k - 1, by omega⟩
    have hi : i < xs.length := by omega
    have hj : i < P.length := by omega
    simp only [impl_known.l0]
    rw [if_pos (by omega), if_pos (by omega), if_pos (by omega), if_pos (by omega), rdK_nat hi, rdG_nat hj]
    refine bsk (v := (xs[i], P[i]) :: M) ?_ ?_
    · unfold impl_putAt.f
      rw [if_pos (hx _ (List.getElem_mem hi))]
    · rw [step64 (by omega), ih k P _ xs (i + 1) (by omega) h1 hP hx (by omega), List.drop_eq_getElem_cons hi, List.drop_eq_getElem_cons hj]
      rfl
theorem impl_known {k m n : Nat} (hk : 1000 < k) (h0 : 0 < n) (h : n ≤ 256) {P : List SD} (hP : P.length = (gnodes m n).length) : impl_known.f k (m : Int) (n : Int) P = some (putAll (gnodes m n) P []) := by
  unfold impl_known.f
  have hl := gnodes_len (m := m) h0 h
  have hl2 : (grow m n).1.length + (grow m n).2.length = (gnodes m n).length := by unfold gnodes; rw [List.length_append]
  refine bsk (impl_nodes (by omega) h0 h) (bsk (v := []) rfl ?_)
  rw [if_pos (by omega)]
  simp only [Option.bind_some]
  have := known_l (gnodes m n).length k P [] (gnodes m n) 0 (by omega) (by omega) hP.symm (fun x hx => by
    have hb : (0 : Int) ≤ x.f0 ∧ x.f0 < x.f1 ∧ x.f1 ≤ (n : Int) := by
      rcases List.mem_append.1 hx with hx | hx
      · have := (fall_in n 0 n m (by omega) h h0).1 x hx; omega
      · have := (fall_in n 0 n m (by omega) h h0).2 x hx; omega
    have := okN_nat (a := x.f0.toNat) (b := x.f1.toNat) (by omega) (by omega)
    rw [Int.toNat_of_nonneg hb.1, Int.toNat_of_nonneg (by omega)] at this
    exact this) (by omega)
  rw [List.drop_zero, List.drop_zero] at this
  exact this
end Go.Proofs.Ytflckegggopdnaa.Q
end
section
namespace Go.Proofs.Ytflckegggopdnaa.Q
open Go.RowKit Go.Proofs.Ytflckegggopdnaa.B Go.Proofs.YtflckegggopdnaaW.PrintWords Go.Proofs.YtflckegggopdnaaW.PrintLast Go.Proofs.YtflckegggopdnaaW.PrintMore
def d4 (d : SD) : D4 := (d.f0, d.f1, d.f2, d.f3)
def proot : List SD → D4
  | [] => hashOf ⟨#[]⟩
  | [p] => d4 p
  | p :: q :: r => hashPair (d4 p) (proot (q :: r))
def peaksRoot (l : List SD) : D4 := if l.length > 8 then (0, 0, 0, 0) else proot l
theorem impl_proot_l (n : Nat) : ∀ (k : Nat) (l : List SD), l.length = n → n ≤ 8 → 30000 + n < k → impl_PeaksRoot.f k l = some (proot l) := by
  induction n with
  | zero =>
    intro k l hl _ hk
    obtain ⟨k, rfl⟩ : ∃ m, k = m + 1 := ⟨k - 1, by omega⟩
    obtain rfl : l = [] := List.eq_nil_of_length_eq_zero hl
    simp only [impl_PeaksRoot.f]
    rw [if_pos (by simp), impl_hash (by omega)]
    rfl
  | succ n ih =>
    intro k l hl hn hk
    obtain ⟨k, rfl⟩ : ∃ m, k = m + 1 := ⟨k - 1, by omega⟩
    simp only [impl_PeaksRoot.f]
    rw [if_neg (by omega), if_neg (by omega)]
    match l, hl with
    | [p], _ => rfl
    | p :: q :: r, hl =>
      rw [if_neg (by simp; omega), if_pos (by omega), if_pos (by simp; omega), List.drop_one, List.tail_cons, ih k (q :: r) (by simpa using hl) (by omega) (by omega)]
      simp only [Option.bind_some]
      rw [impl_pair (by omega)]
      rfl
theorem impl_proot {k : Nat} (hk : 30010 < k) (l : List SD) (hm : l.length < 1099511627776) : impl_PeaksRoot.f k l = some (peaksRoot l) := by
  unfold peaksRoot
  by_cases h : l.length > 8
  · rw [if_pos h]
    obtain ⟨k, rfl⟩ : ∃ m, k = m + 1 := ⟨k - 1, by omega⟩
    simp only [impl_PeaksRoot.f]
    rw [if_neg (by omega), if_pos (by omega)]
  · rw [if_neg h]
    exact impl_proot_l l.length k l rfl (by omega) (by omega)
end Go.Proofs.Ytflckegggopdnaa.Q
end
section
namespace Go.Proofs.Ytflckegggopdnaa.Q
open Go.RowKit Go.Proofs.Ytflckegggopdnaa.B Go.Proofs.YtflckegggopdnaaW.PrintWords Go.Proofs.YtflckegggopdnaaW.PrintLast Go.Proofs.YtflckegggopdnaaW.PrintMore
set_option linter.unusedVariables false
set_option linter.unusedSimpArgs false
def nd (a b : D4) : Bool := !(a.1 == b.1) || (!(a.2.1 == b.2.1) || (!(a.2.2.1 == b.2.2.1) || (!(a.2.2.2 == b.2.2.2))))
theorem nd_iff (a b : D4) : nd a b = true ↔ a ≠ b := by
  obtain ⟨a1, a2, a3, a4⟩ := a
  obtain ⟨b1, b2, b3, b4⟩ := b
  simp only [nd, Bool.or_eq_true, Bool.not_eq_true', beq_eq_false_iff_ne, ne_eq, Prod.mk.injEq]
  constructor
  · rintro h ⟨rfl, rfl, rfl, rfl⟩
    simp at h
  · intro h
    by_cases h1 : a1 = b1
    · by_cases h2 : a2 = b2
      · by_cases h3 : a3 = b3
        · exact .inr (.inr (.inr fun h4 => h ⟨h1, h2, h3, h4⟩))
        · exact .inr (.inr (.inl h3))
      · exact .inr (.inl h2)
    · exact .inl h1
theorem nd_self (a : D4) : nd a a = false := by
  cases h : nd a a
  · rfl
  · exact absurd rfl ((nd_iff a a).1 h)
def digRoot (m n : Nat) (P : List SD) : D4 := digF n 0 n m (given m n P)
def gcheck (m n : Int) (a b : D4) (P : List SD) : Int :=
  if 0 ≤ m ∧ m ≤ n ∧ n ≤ 256 then
    if (P.length : Int) = growLen m n then
      if m = 0 then (if nd a (hashOf (⟨#[]⟩ : ByteArray)) = true then 3 else if n = 0 ∧ nd a b = true then 4 else 0)
      else if m = n then (if nd a b = true then 4 else 0)
      else if nd (peaksRoot (P.take (popc m.toNat))) a = true then 3 else if nd (digRoot m.toNat n.toNat P) b = true then 4 else 0
    else 2
  else 1
theorem mayGrow (m n : Int) : impl_mayGrow.f m n = some (decide (0 ≤ m ∧ m ≤ n ∧ n ≤ 256)) := by
  unfold impl_mayGrow.f
  refine bsk impl_in ?_
  by_cases h : 0 ≤ n ∧ n ≤ 256
  · rw [if_pos (by simpa using h)]
    refine bsk impl_in ?_
    refine congrArg some (decide_eq_decide.2 ?_)
    omega
  · rw [if_neg (by simpa using h)]
    refine congrArg some (decide_eq_false ?_).symm
    omega
theorem growLen_in {m n : Nat} (h0 : 0 < m) (h1 : m < n) (h : n ≤ 256) : growLen (m : Int) (n : Int) = (((gnodes m n).length : Nat) : Int) := by
  unfold growLen gnodes
  rw [if_pos (by omega), if_neg (by omega), Int.toNat_natCast, Int.toNat_natCast, List.length_append]
theorem popc_old {m n : Nat} (h0 : 0 < m) (h1 : m < n) (h : n ≤ 256) : popc m ≤ (gnodes m n).length := by
  have := fall_old n 0 n m (by omega) h h0 h1
  rw [Nat.sub_zero] at this
  unfold gnodes grow
  rw [List.length_append, this]
  exact Nat.le_add_right _ _
theorem impl_gcheck1 {k : Nat} (hk : 60000 < k) {m n : Nat} (h0 : 0 < m) (h1 : m < n) (h : n ≤ 256) (a b : D4) {P : List SD} (hP : P.length = (gnodes m n).length) (x : Bool) :
    impl_GrowthCheck.j1 (k + 1) P (m : Int) (n : Int) true x (m : Int) a.1 a.2.1 a.2.2.1 a.2.2.2 (n : Int) b.1 b.2.1 b.2.2.1 b.2.2.2 = some (if x = true then 3 else if nd (digRoot m n P) b = true then 4 else 0) := by
  rw [impl_GrowthCheck.j1]
  cases x with
  | true => rw [if_pos rfl, if_pos rfl]
  | false =>
    rw [if_neg (show ¬ false = true by simp), if_neg (show ¬ ((m : Int) = (n : Int)) by omega), if_pos rfl, if_neg (show ¬ false = true by simp)]
    refine bsk (impl_known (by omega) (by omega) h hP) ?_
    have := impl_digestBy n (m := m) (by omega) h hP k 0 n (by omega) (by omega) (Nat.le_refl _) (within_all m n) (by omega)
    refine bsk this ?_
    show (if nd (digRoot m n P) b = true then _ else _) = _
    by_cases c : nd (digRoot m n P) b = true
    · rw [if_pos c, if_pos c]
    · rw [if_neg c, if_neg c]
theorem impl_gcheck {k : Nat} (hk : 60000 < k) (m n : Int) (a b : D4) {P : List SD} (hm : P.length < 1099511627776) :
    impl_GrowthCheck.f (k + 2) m a.1 a.2.1 a.2.2.1 a.2.2.2 n b.1 b.2.1 b.2.2.1 b.2.2.2 P = some (gcheck m n a b P) := by
  have e : impl_GrowthCheck.f (k + 2) m a.1 a.2.1 a.2.2.1 a.2.2.2 n b.1 b.2.1 b.2.2.1 b.2.2.2 P = impl_GrowthCheck.j0 (k + 2) P m n (decide (0 < m ∧ m < n)) m a.1 a.2.1 a.2.2.1 a.2.2.2 n b.1 b.2.1 b.2.2.1 b.2.2.2 := by
    unfold impl_GrowthCheck.f
    by_cases c : m > 0
    · rw [if_pos c]
      refine congrArg (fun x => impl_GrowthCheck.j0 (k + 2) P m n x m a.1 a.2.1 a.2.2.1 a.2.2.2 n b.1 b.2.1 b.2.2.1 b.2.2.2) (decide_eq_decide.2 ?_)
      omega
    · rw [if_neg c]
      refine congrArg (fun x => impl_GrowthCheck.j0 (k + 2) P m n x m a.1 a.2.1 a.2.2.1 a.2.2.2 n b.1 b.2.1 b.2.2.1 b.2.2.2) (decide_eq_false ?_).symm
      omega
  rw [e]
  unfold gcheck
  rw [impl_GrowthCheck.j0]
  refine bsk (mayGrow m n) ?_
  by_cases c : 0 ≤ m ∧ m ≤ n ∧ n ≤ 256
  · rw [if_pos (by simpa using c), if_pos c]
    refine bsk (impl_growLen (by omega) m n) ?_
    by_cases c1 : (P.length : Int) = growLen m n
    · rw [if_pos c1, if_pos c1]
      by_cases c2 : m = 0
      · rw [if_pos c2, if_pos c2]
        refine bsk (impl_hash (by omega) _) ?_
        show (if nd a (hashOf (⟨#[]⟩ : ByteArray)) = true then _ else _) = _
        by_cases c3 : nd a (hashOf (⟨#[]⟩ : ByteArray)) = true
        · rw [if_pos c3, if_pos c3]
          rw [impl_GrowthCheck.j1]
          rw [if_pos rfl]
        · rw [if_neg c3, if_neg c3, if_neg (by simp; omega)]
          rw [impl_GrowthCheck.j1]
          rw [if_neg (by simp)]
          by_cases c4 : n = 0
          · rw [if_pos (by omega)]
            show (if nd a b = true then _ else _) = _
            by_cases c5 : nd a b = true
            · rw [if_pos c5, if_pos ⟨c4, c5⟩]
            · rw [if_neg c5, if_neg (by simp; omega), if_neg (fun hh => c5 hh.2)]
          · rw [if_neg (by omega), if_neg (by simp; omega), if_neg (fun hh => c4 hh.1)]
      · rw [if_neg c2, if_neg c2]
        by_cases c3 : m = n
        · rw [if_neg (by simp; omega), if_pos c3]
          rw [impl_GrowthCheck.j1]
          rw [if_neg (by simp), if_pos c3]
          show (if nd a b = true then _ else _) = _
          by_cases c5 : nd a b = true
          · rw [if_pos c5, if_pos c5]
          · rw [if_neg c5, if_neg (by simp; omega), if_neg c5]
        · rw [if_pos (by simp; omega), if_neg c3]
          obtain ⟨m, rfl⟩ : ∃ q : Nat, m = (q : Int) := ⟨m.toNat, by omega⟩
          obtain ⟨n, rfl⟩ : ∃ q : Nat, n = (q : Int) := ⟨n.toNat, by omega⟩
          have hmn : m < n := by omega
          rw [growLen_in (by omega) hmn (by omega)] at c1
          have hP : P.length = (gnodes m n).length := by omega
          have hp := popc_old (m := m) (n := n) (by omega) hmn (by omega)
          refine bsk (impl_count (by omega)) ?_
          rw [if_pos (Int.natCast_nonneg _), if_pos (Int.ofNat_le.2 (by rw [hP]; exact hp)), Int.toNat_natCast, Int.toNat_natCast, Int.toNat_natCast]
          refine bsk (impl_proot (by omega) _ (by rw [List.length_take]; omega)) ?_
          rw [decide_eq_true (show 0 < (m : Int) ∧ (m : Int) < (n : Int) by omega)]
          exact impl_gcheck1 (by omega) (by omega) hmn (by omega) a b hP _
    · rw [if_neg c1, if_neg c1]
  · rw [if_neg (by simpa using c), if_neg c]
end Go.Proofs.Ytflckegggopdnaa.Q
end
section
namespace Go.Proofs.Ytflckegggopdnaa.Q
open Go.RowKit Go.Proofs.Ytflckegggopdnaa.B Go.Proofs.YtflckegggopdnaaW.PrintWords Go.Proofs.YtflckegggopdnaaW.PrintLast Go.Proofs.YtflckegggopdnaaW.PrintMore
def nodeRoot (l : List ByteArray) (x : NO) : SD := toSD (root ((l.take x.f1.toNat).drop x.f0.toNat))
theorem rdN_nat {l : List NO} {i : Nat} (h : i < l.length) : rd_T100 l (i : Int) = l[i] := by simp [rd_T100, List.getD, List.getElem?_eq_getElem h]
theorem fall_zero_nil (f : Nat) : ∀ (lo hi m : Nat), hi - lo ≤ f → lo < hi → m ≤ lo → (fallF f lo hi m).1 = [] := by
  intro lo hi m h h2 h3
  obtain ⟨f, rfl⟩ : ∃ g, f = g + 1 := ⟨f - 1, by omega⟩
  simp only [fallF]
  rw [if_neg (by omega), if_pos h3]
theorem fall_one_is (f : Nat) : ∀ (lo hi m : Nat), hi - lo ≤ f → lo < hi → hi ≤ m → (fallF f lo hi m).1 = [⟨(lo : Int), (hi : Int)⟩] := by
  intro lo hi m h h1 h3
  obtain ⟨f, rfl⟩ : ∃ g, f = g + 1 := ⟨f - 1, by omega⟩
  simp only [fallF]
  rw [if_pos h3]
theorem slice_eq (l : List ByteArray) (a b m : Nat) (h : a ≤ b) (hm : b ≤ m) : (l.take b).drop a = ((l.take m).drop a).take (b - a) := by
  rw [List.take_drop, show a + (b - a) = b by omega, List.take_take, Nat.min_eq_left hm]
theorem fall_peaks (l : List ByteArray) (f : Nat) : ∀ (lo hi m : Nat), hi - lo ≤ f → hi ≤ l.length → l.length ≤ 256 → lo < m → m < hi → (fallF f lo hi m).1.map (nodeRoot l) = peaks ((l.take m).drop lo) := by
  induction f with
  | zero => intro lo hi m h h1 h2 h3; omega
  | succ f ih =>
    intro lo hi m h h1 hl h2 h3
    simp only [fallF]
    rw [if_neg (by omega), if_neg (by omega)]
    obtain ⟨e, he, h4, h5, h6⟩ := spl_is (n := hi - lo) (by omega) (by omega)
    have hs := spl_lt (n := hi - lo) (by omega) (by omega)
    have hlen : ((l.take m).drop lo).length = m - lo := by rw [List.length_drop, List.length_take]; omega
    simp only [List.map_append]
    have hone : ∀ x : Nat, x = lo + 2 ^ e → nodeRoot l ⟨(lo : Int), (x : Int)⟩ = toSD (root (((l.take x)).drop lo)) := fun x _ => rfl
    rcases Nat.lt_or_ge m (lo + spl (hi - lo)) with c | c
    · rw [ih _ _ _ (by omega) (by omega) hl h2 c, fall_zero_nil f _ _ _ (by omega) (by omega) (by omega), List.map_nil, List.append_nil]
    · have hp : peaks ((l.take m).drop lo) = toSD (root (((l.take m).drop lo).take (2 ^ e))) :: peaks (((l.take m).drop lo).drop (2 ^ e)) := by
        refine peaks_cons (by omega) (by omega) ?_
        rw [hlen]
        omega
      rw [hp, fall_one_is f _ _ _ (by omega) (by omega) (by omega), List.map_cons, List.map_nil, he, hone _ rfl, slice_eq l lo (lo + 2 ^ e) m (by omega) (by omega), Nat.add_sub_cancel_left]
      refine congrArg (toSD (root (((l.take m).drop lo).take (2 ^ e))) :: ·) ?_
      rw [List.drop_drop]
      rcases Nat.eq_or_lt_of_le c with c | c
      · rw [fall_zero_nil f _ _ _ (by omega) (by omega) (by omega), List.drop_of_length_le (by rw [List.length_take]; omega), peaks_nil]
        rfl
      · rw [ih _ _ _ (by omega) h1 hl (by omega) h3]
        rfl
theorem fall_fit (f : Nat) : ∀ (lo hi m : Nat), lo ≤ hi → ∀ x ∈ (fallF f lo hi m).1 ++ (fallF f lo hi m).2, hi - lo ≤ f → hi ≤ 256 → ∃ a b : Nat, x = ⟨(a : Int), (b : Int)⟩ ∧ a ≤ b ∧ lo ≤ a ∧ b ≤ hi := by
  induction f with
  | zero => intro lo hi m _ x hx; simp [fallF] at hx
  | succ f ih =>
    intro lo hi m hlo x hx h h1
    simp only [fallF] at hx
    by_cases c1 : hi ≤ m
    · rw [if_pos c1] at hx
      simp at hx
      exact ⟨lo, hi, hx, hlo, by omega, by omega⟩
    · rw [if_neg c1] at hx
      by_cases c2 : m ≤ lo
      · rw [if_pos c2] at hx
        simp at hx
        exact ⟨lo, hi, hx, hlo, by omega, by omega⟩
      · rw [if_neg c2] at hx
        have hs := spl_lt (n := hi - lo) (by omega) (by omega)
        simp only [List.mem_append] at hx
        rcases hx with (hx | hx) | (hx | hx)
        · obtain ⟨a, b, e, h3, h4, h5⟩ := ih lo (lo + spl (hi - lo)) m (by omega) x (List.mem_append_left _ hx) (by omega) (by omega)
          exact ⟨a, b, e, h3, by omega, by omega⟩
        · obtain ⟨a, b, e, h3, h4, h5⟩ := ih (lo + spl (hi - lo)) hi m (by omega) x (List.mem_append_left _ hx) (by omega) (by omega)
          exact ⟨a, b, e, h3, by omega, by omega⟩
        · obtain ⟨a, b, e, h3, h4, h5⟩ := ih lo (lo + spl (hi - lo)) m (by omega) x (List.mem_append_right _ hx) (by omega) (by omega)
          exact ⟨a, b, e, h3, by omega, by omega⟩
        · obtain ⟨a, b, e, h3, h4, h5⟩ := ih (lo + spl (hi - lo)) hi m (by omega) x (List.mem_append_right _ hx) (by omega) (by omega)
          exact ⟨a, b, e, h3, by omega, by omega⟩
theorem implGrow_l (l : List ByteArray) (hl : l.length ≤ 256) (hz : ∀ s ∈ l, s.size ≤ 4611686018427387904) (n : Nat) : ∀ (k : Nat) (xs : List NO) (acc : List SD) (i : Nat), xs.length = i + n → xs.length ≤ 1000 → (∀ x ∈ xs, ∃ a b : Nat, x = ⟨(a : Int), (b : Int)⟩ ∧ a ≤ b ∧ b ≤ l.length) → 40000 + n < k → acc.length + n ≤ 2000 →
    impl_GrowthOf.l0 k l acc xs (xs.length : Int) (i : Int) = some (acc ++ (xs.drop i).map (nodeRoot l), true) := by
  induction n with
  | zero =>
    intro k xs acc i hn hx hf hk ha
    obtain ⟨k, rfl⟩ : ∃ m, k = m + 1 := ⟨k - 1, by omega⟩
    simp only [impl_GrowthOf.l0]
    rw [if_neg (by omega), List.drop_of_length_le (by omega)]
    refine bs (copiedD (by omega)) ?_
    simp
  | succ n ih =>
    intro k xs acc i hn hx hf hk ha
    obtain ⟨k, rfl⟩ : ∃ m, k = m + 1 := ⟨k - 1, by omega⟩
    have hi : i < xs.length := by omega
    obtain ⟨a, b, e, h1, h2⟩ := hf _ (List.getElem_mem hi)
    simp only [impl_GrowthOf.l0]
    rw [if_pos (by omega), if_pos (by omega), if_pos (by omega), rdN_nat hi]
    rw [List.drop_eq_getElem_cons hi, List.map_cons]
    generalize xs[i] = x at e ⊢
    subst e
    show (if 0 ≤ (a : Int) then (if (a : Int) ≤ (b : Int) then (if (b : Int) ≤ (l.length : Int) then _ else _) else _) else _) = _
    rw [if_pos (by omega), if_pos (by omega), if_pos (by omega)]
    refine bs (v := root ((l.take b).drop a)) ?_ ?_
    · show impl_rootOf.f k ((l.take ((b : Int)).toNat).drop ((a : Int)).toNat) = _
      rw [Int.toNat_natCast, Int.toNat_natCast]
      exact impl_root (by omega) (by simp; omega) (fun s hs => hz s (List.mem_of_mem_take (List.mem_of_mem_drop hs)))
    · rw [if_pos (by omega), step64 (by omega), ih k xs _ (i + 1) (by omega) hx hf (by omega) (by simp; omega)]
      refine congrArg some (Prod.ext ?_ rfl)
      rw [List.append_assoc]
      rfl
def growthOf (l : List ByteArray) (m : Int) : List SD × Bool :=
  if leavesOk l = true ∧ 0 ≤ m ∧ m ≤ (l.length : Int) then (if m = 0 ∨ m = (l.length : Int) then ([], true) else (((grow m.toNat l.length).1 ++ (grow m.toNat l.length).2).map (nodeRoot l), true)) else ([], false)
theorem impl_growthOf {k : Nat} (hk : 1099511627776 < k) {l : List ByteArray} (h : l.length < 1099511627776) (m : Int) : impl_GrowthOf.f (k + 2) l m = some (growthOf l m) := by
  unfold impl_GrowthOf.f growthOf
  refine bs (impl_leaves l (by omega) h) ?_
  by_cases c : leavesOk l = true
  · obtain ⟨h2, hz⟩ := leaves_fit c
    rw [if_pos c]
    unfold impl_mayGrow.f
    rw [impl_in, impl_in]
    simp only [Option.bind_some]
    rw [if_pos (by simp; omega)]
    simp only [Option.bind_some]
    by_cases c2 : 0 ≤ m ∧ m ≤ (l.length : Int)
    · rw [if_pos ⟨c, c2⟩]
      simp only [c2, decide_true, Bool.not_true, impl_GrowthOf.j0, Bool.false_eq_true, if_false, and_self]
      obtain ⟨n, rfl⟩ : ∃ n : Nat, m = (n : Int) := ⟨m.toNat, by omega⟩
      by_cases c3 : (n : Int) = 0
      · rw [if_pos c3, if_pos (Or.inl c3)]
        simp [impl_GrowthOf.j1]
      · rw [if_neg c3]
        by_cases c4 : (n : Int) = (l.length : Int)
        · rw [if_pos (Or.inr c4)]
          simp [impl_GrowthOf.j1, c4]
        · rw [if_neg (by omega)]
          simp only [impl_GrowthOf.j1]
          rw [if_neg (by simpa using c4)]
          refine bs (impl_nodes (by omega) (by omega) h2) ?_
          have hlen := fall_len l.length 0 l.length n (by omega) (by omega) (by omega)
          have hlen2 : (grow n l.length).1.length + (grow n l.length).2.length ≤ l.length := by unfold grow; omega
          rw [if_pos (by omega)]
          simp only [Option.bind_some]
          have := implGrow_l l h2 hz ((grow n l.length).1 ++ (grow n l.length).2).length k ((grow n l.length).1 ++ (grow n l.length).2) [] 0 (by omega) (by rw [List.length_append]; omega) (fun x hx => by
            obtain ⟨a, b, e, h3, _, h5⟩ := fall_fit l.length 0 l.length n (by omega) x hx (by omega) h2
            exact ⟨a, b, e, h3, h5⟩) (by rw [List.length_append]; omega) (by rw [List.length_append, List.length_nil]; omega)
          rw [show ((0 : Nat) : Int) = 0 from rfl] at this
          rw [this, Int.toNat_natCast]
          rfl
    · rw [if_neg (by intro hh; exact c2 hh.2)]
      have e1 : decide (0 ≤ m ∧ m ≤ (l.length : Int)) = false := decide_eq_false c2
      rw [e1]
      simp [impl_GrowthOf.j0]
  · rw [if_neg c, if_neg (by intro hh; exact c hh.1)]
    simp [impl_GrowthOf.j0]
theorem leavesOk_take {l : List ByteArray} (c : leavesOk l = true) (n : Nat) : leavesOk (l.take n) = true := by
  simp only [leavesOk, Bool.and_eq_true, decide_eq_true_eq, List.all_eq_true] at c ⊢
  exact ⟨by rw [List.length_take]; omega, fun s hs => c.2 s (List.mem_of_mem_take hs)⟩
theorem impl_growthOf' {k : Nat} (hk : 1099511627780 < k) {l : List ByteArray} (h : l.length < 1099511627776) (m : Int) : impl_GrowthOf.f k l m = some (growthOf l m) := by
  obtain ⟨k, rfl⟩ : ∃ q, k = q + 2 := ⟨k - 2, by omega⟩
  exact impl_growthOf (by omega) h m
theorem growthOf_len {l : List ByteArray} (h : l.length < 1099511627776) (m : Int) : (growthOf l m).1.length ≤ 256 := by
  unfold growthOf
  by_cases c : leavesOk l = true ∧ 0 ≤ m ∧ m ≤ (l.length : Int)
  · rw [if_pos c]
    obtain ⟨h2, hz⟩ := leaves_fit c.1
    by_cases c2 : m = 0 ∨ m = (l.length : Int)
    · rw [if_pos c2]; simp
    · rw [if_neg c2]
      have := fall_len l.length 0 l.length m.toNat (by omega) (by omega) (by omega)
      simp only [List.length_map, List.length_append]
      unfold grow
      omega
  · rw [if_neg c]; simp
end Go.Proofs.Ytflckegggopdnaa.Q
end
section
namespace Go.Proofs.Ytflckegggopdnaa.Q
open Go.RowKit Go.Proofs.Ytflckegggopdnaa.B Go.Proofs.YtflckegggopdnaaW.PrintWords Go.Proofs.YtflckegggopdnaaW.PrintLast Go.Proofs.YtflckegggopdnaaW.PrintMore
set_option linter.unusedVariables false
set_option linter.unusedSimpArgs false
end Go.Proofs.Ytflckegggopdnaa.Q
end
section
namespace Go.Proofs.Ytflckegggopdnaa.Q
open Go.RowKit Go.Proofs.Ytflckegggopdnaa.B Go.Proofs.YtflckegggopdnaaW.PrintWords Go.Proofs.YtflckegggopdnaaW.PrintLast Go.Proofs.YtflckegggopdnaaW.PrintMore
set_option linter.unusedVariables false
set_option linter.unusedSimpArgs false
theorem pow_top {n : Nat} (h0 : 1 ≤ n) (h1 : n ≤ 256) : ∃ e, 2 ^ e ≤ n ∧ n < 2 ^ (e + 1) ∧ e ≤ 8 := by
  refine ⟨n.log2, Nat.log2_self_le (by omega), Nat.lt_log2_self, ?_⟩
  rcases Nat.lt_or_ge 8 n.log2 with c | c
  · have h2 : (2 : Nat) ^ 9 ≤ 2 ^ n.log2 := Nat.pow_le_pow_right (by omega) c
    have h3 := Nat.log2_self_le (n := n) (by omega)
    rw [show (2 : Nat) ^ 9 = 512 by rfl] at h2
    omega
  · exact c
theorem spl_top {n e : Nat} (h0 : 2 ^ e < n) (h1 : n < 2 ^ (e + 1)) (h2 : n ≤ 256) (h3 : 2 ≤ n) : spl n = 2 ^ e := by
  obtain ⟨d, hd, h4, h5, h6⟩ := spl_is h3 h2
  rw [hd]
  have : d = e := by
    rcases Nat.lt_trichotomy d e with c | c | c
    · have : (2 : Nat) ^ (d + 1) ≤ 2 ^ e := Nat.pow_le_pow_right (by omega) c
      omega
    · exact c
    · have : (2 : Nat) ^ (e + 1) ≤ 2 ^ d := Nat.pow_le_pow_right (by omega) c
      omega
  rw [this]
theorem d4_toSD (d : D4) : d4 (toSD d) = d := rfl
theorem proot_peaks (f : Nat) : ∀ l : List ByteArray, l.length ≤ f → l.length ≤ 256 → proot (peaks l) = root l := by
  induction f with
  | zero =>
    intro l h _
    obtain rfl : l = [] := List.eq_nil_of_length_eq_zero (by omega)
    rw [peaks_nil]
    rfl
  | succ f ih =>
    intro l h h2
    by_cases h0 : l.length = 0
    · obtain rfl : l = [] := List.eq_nil_of_length_eq_zero h0
      rw [peaks_nil]
      rfl
    · obtain ⟨e, h3, h4, h5⟩ := pow_top (n := l.length) (by omega) h2
      have hp : 0 < 2 ^ e := Nat.pow_pos (by omega)
      rw [peaks_cons h5 h3 h4]
      by_cases h6 : l.length = 2 ^ e
      · rw [List.drop_of_length_le (by omega), peaks_nil, List.take_of_length_le (by omega)]
        rfl
      · have hd : (l.drop (2 ^ e)).length = l.length - 2 ^ e := List.length_drop
        obtain ⟨e', h7, h8, h9⟩ := pow_top (n := (l.drop (2 ^ e)).length) (by omega) (by omega)
        have i1 := ih (l.drop (2 ^ e)) (by omega) (by omega)
        have e1 := peaks_cons h9 h7 h8
        rw [e1] at i1 ⊢
        show hashPair (d4 (toSD (root (l.take (2 ^ e))))) (proot (_ :: _)) = root l
        rw [i1, d4_toSD, root_split (by omega) h2, spl_top (by omega) h4 h2 (by omega)]
theorem peaks_count (f : Nat) : ∀ l : List ByteArray, l.length ≤ f → l.length ≤ 256 → (peaks l).length = popc l.length := by
  induction f with
  | zero =>
    intro l h _
    obtain rfl : l = [] := List.eq_nil_of_length_eq_zero (by omega)
    rw [peaks_nil]
    rfl
  | succ f ih =>
    intro l h h2
    by_cases h0 : l.length = 0
    · obtain rfl : l = [] := List.eq_nil_of_length_eq_zero h0
      rw [peaks_nil]
      rfl
    · obtain ⟨e, h3, h4, h5⟩ := pow_top (n := l.length) (by omega) h2
      have hp : 0 < 2 ^ e := Nat.pow_pos (by omega)
      have hd : (l.drop (2 ^ e)).length = l.length - 2 ^ e := List.length_drop
      rw [peaks_cons h5 h3 h4, List.length_cons, ih _ (by omega) (by omega), hd]
      have := pc_top ⟨e, by omega⟩ ⟨l.length - 2 ^ e, by omega⟩ (by rw [Nat.pow_succ] at h4; show l.length - 2 ^ e < 2 ^ e; omega) (by show 2 ^ e + (l.length - 2 ^ e) ≤ 256; omega)
      simp only [Fin.val_mk] at this
      rw [show 2 ^ e + (l.length - 2 ^ e) = l.length by omega] at this
      unfold popc
      omega
where
  pc_top : ∀ e : Fin 9, ∀ x : Fin 257, x.val < 2 ^ e.val → 2 ^ e.val + x.val ≤ 256 → pc 9 (2 ^ e.val + x.val) = 1 + pc 9 x.val := by decide +kernel
theorem popc_le : ∀ n : Fin 257, popc n.val ≤ 8 := by decide +kernel
theorem peaksRoot_peaks {l : List ByteArray} (h : l.length ≤ 256) : peaksRoot (peaks l) = root l := by
  unfold peaksRoot
  have h1 := peaks_count l.length l (Nat.le_refl _) h
  have h2 := popc_le ⟨l.length, by omega⟩
  simp only [Fin.val_mk] at h2
  rw [if_neg (by omega)]
  exact proot_peaks l.length l (Nat.le_refl _) h
end Go.Proofs.Ytflckegggopdnaa.Q
end
section
namespace Go.Proofs.Ytflckegggopdnaa.Q
open Go.RowKit Go.Proofs.Ytflckegggopdnaa.B Go.Proofs.YtflckegggopdnaaW.PrintWords Go.Proofs.YtflckegggopdnaaW.PrintLast Go.Proofs.YtflckegggopdnaaW.PrintMore
set_option linter.unusedVariables false
set_option linter.unusedSimpArgs false
theorem slice_take (l : List ByteArray) (a b c : Nat) (h : a + c ≤ b) : ((l.take b).drop a).take c = (l.take (a + c)).drop a := by
  rw [List.take_drop, List.take_take, Nat.min_eq_left (by omega)]
end Go.Proofs.Ytflckegggopdnaa.Q
end
section
namespace Go.Proofs.Ytflckegggopdnaa.Q
open Go.RowKit Go.Proofs.Ytflckegggopdnaa.B Go.Proofs.YtflckegggopdnaaW.PrintWords Go.Proofs.YtflckegggopdnaaW.PrintLast Go.Proofs.YtflckegggopdnaaW.PrintMore
set_option linter.unusedVariables false
set_option linter.unusedSimpArgs false
end Go.Proofs.Ytflckegggopdnaa.Q
end
section
namespace Go.Proofs.Ytflckegggopdnaa.Q
open Go.RowKit Go.Proofs.Ytflckegggopdnaa.B Go.Proofs.YtflckegggopdnaaW.PrintWords Go.Proofs.YtflckegggopdnaaW.PrintLast Go.Proofs.YtflckegggopdnaaW.PrintMore
set_option linter.unusedVariables false
set_option linter.unusedSimpArgs false
end Go.Proofs.Ytflckegggopdnaa.Q
end
section
namespace Go.Proofs.Ytflckegggopdnaa.Q
open Go.RowKit Go.Proofs.Ytflckegggopdnaa.B Go.Proofs.YtflckegggopdnaaW.PrintWords Go.Proofs.YtflckegggopdnaaW.PrintLast Go.Proofs.YtflckegggopdnaaW.PrintMore
theorem xor_nat (a b : Nat) (ha : a < 2 ^ 62) (hb : b < 2 ^ 62) : Go.bits .xor .i64 (a : Int) (b : Int) = ((a ^^^ b : Nat) : Int) := by
  have hx : a ^^^ b < 2 ^ 62 := Nat.xor_lt_two_pow ha hb
  have ha' : a % 2 ^ IntKind.i64.bits = a := Nat.mod_eq_of_lt (Nat.lt_of_lt_of_le ha (by decide))
  have hb' : b % 2 ^ IntKind.i64.bits = b := Nat.mod_eq_of_lt (Nat.lt_of_lt_of_le hb (by decide))
  simp only [Go.bits, BitVec.ofInt_natCast, BitVec.toNat_xor, BitVec.toNat_ofNat, ha', hb']
  generalize a ^^^ b = c at *
  rw [IntKind.wrap_i64]
  omega
theorem rd_8 {b : List Int} (h : Bytes8 b) (i : Int) : 0 ≤ rd b i ∧ rd b i ≤ 255 := by
  unfold rd
  by_cases hi : i.toNat < b.length
  · have : b.getD i.toNat 0 = b[i.toNat] := by simp [List.getD, List.getElem?_eq_getElem hi]
    rw [this]
    exact h _ (List.getElem_mem hi)
  · have : b.getD i.toNat 0 = 0 := by simp [List.getD, List.getElem?_eq_none (by omega : b.length ≤ i.toNat)]
    rw [this]
    omega
structure Rdr (b : List Int) (p m : Int) : Prop where
  bytes : Bytes8 b
  len : b.length ≤ 2000
  low : 0 ≤ p
  high : p ≤ m
theorem Rdr.more {b : List Int} {p m q n : Int} (h : Rdr b p m) (h0 : p ≤ q) (h1 : q - p ≤ n - m) : Rdr b q n := ⟨h.bytes, h.len, by have := h.low; omega, by have := h.high; omega⟩
theorem mix_ok {a c q e : Int} (ha : 0 ≤ a ∧ a ≤ 255) (hc : 0 ≤ c ∧ c ≤ 255) (hq : 0 ≤ q ∧ q ≤ 1000000000000) (he : 0 ≤ e ∧ e ≤ q) :
    ∃ v : Nat, Go.bits .xor .i64 (wrap64 ((wrap64 ((wrap64 ((wrap64 ((wrap64 a) * 131)) + (wrap64 ((wrap64 c) * 1117)))) + (wrap64 (q * 29)))) + (wrap64 ((wrap64 e) * 53)))) (wrap64 (Int.tdiv (wrap64 ((wrap64 ((wrap64 ((wrap64 ((wrap64 a) * 131)) + (wrap64 ((wrap64 c) * 1117)))) + (wrap64 (q * 29)))) + (wrap64 ((wrap64 e) * 53)))) 64)) = (v : Int) := by
  have hx : wrap64 ((wrap64 ((wrap64 ((wrap64 ((wrap64 a) * 131)) + (wrap64 ((wrap64 c) * 1117)))) + (wrap64 (q * 29)))) + (wrap64 ((wrap64 e) * 53))) = a * 131 + c * 1117 + q * 29 + e * 53 := by
    rw [w64 (x := a) (by omega) (by omega), w64 (x := c) (by omega) (by omega), w64 (x := e) (by omega) (by omega), w64 (x := a * 131) (by omega) (by omega), w64 (x := c * 1117) (by omega) (by omega),
      w64 (x := q * 29) (by omega) (by omega), w64 (x := e * 53) (by omega) (by omega), w64 (x := a * 131 + c * 1117) (by omega) (by omega), w64 (x := a * 131 + c * 1117 + q * 29) (by omega) (by omega), w64 (by omega) (by omega)]
  rw [hx]
  obtain ⟨x, hx2⟩ : ∃ x : Nat, a * 131 + c * 1117 + q * 29 + e * 53 = (x : Int) := ⟨(a * 131 + c * 1117 + q * 29 + e * 53).toNat, by omega⟩
  have hb : x < 2 ^ 62 := by omega
  rw [hx2, Int.tdiv_eq_ediv_of_nonneg (by omega), w64 (by omega) (by omega), show (x : Int) / 64 = ((x / 64 : Nat) : Int) by omega, xor_nat _ _ hb (by omega)]
  exact ⟨_, rfl⟩
theorem pick_ok {k : Nat} (hk : 1 ≤ k) {b : List Int} {p m : Int} (h : Rdr b p m) (hm : m ≤ 900000000000) (n : Int) : ∃ v, spec_l1Rd_pick.f k b p n = some (v, p + 1) ∧ 0 ≤ v ∧ (1 ≤ n → v < n) ∧ (n < 1 → v = 0) := by
  obtain ⟨k, rfl⟩ : ∃ m, k = m + 1 := ⟨k - 1, by omega⟩
  have h1 := h.low
  have h2 := h.high
  have h3 := h.len
  unfold spec_l1Rd_pick.f
  rw [show wrap64 (p + 1) = p + 1 by unfold wrap64; omega]
  by_cases hn : n < 1
  · rw [if_pos hn]
    simp only [spec_l1Rd_pick.j0, if_true]
    exact ⟨0, rfl, by omega, by omega, fun _ => rfl⟩
  · rw [if_neg hn]
    by_cases h0 : b.length = 0
    · rw [show ((b.length : Int) == 0) = true by simp [h0]]
      simp only [spec_l1Rd_pick.j0, if_true]
      exact ⟨0, rfl, by omega, by omega, fun _ => rfl⟩
    · rw [show ((b.length : Int) == 0) = false by rw [beq_eq_false_iff_ne]; omega]
      simp only [spec_l1Rd_pick.j0, Bool.false_eq_true, if_false]
      rw [show wrap64 (p + 1 - 1) = p by unfold wrap64; omega]
      by_cases hp : p < (b.length : Int)
      · have := rd_8 h.bytes p
        rw [if_pos hp, if_pos h1, if_neg (by omega), w64 (by omega) (by omega)]
        exact ⟨_, rfl, Int.tmod_nonneg _ (by omega), fun _ => Int.tmod_lt_of_pos _ (by omega), by omega⟩
      · have l0 : 0 < (b.length : Int) := by omega
        have t0 := Int.tmod_nonneg (b.length : Int) h1
        have t1 := Int.tmod_lt_of_pos p l0
        have q0 : wrap64 (wrap64 (p * 7) + 3) = p * 7 + 3 := by rw [w64 (x := p * 7) (by omega) (by omega), w64 (by omega) (by omega)]
        have t2 := Int.tmod_nonneg (b.length : Int) (show (0 : Int) ≤ p * 7 + 3 by omega)
        have t3 := Int.tmod_lt_of_pos (p * 7 + 3) l0
        have d0 : 0 ≤ p.tdiv (b.length : Int) := Int.tdiv_nonneg h1 (by omega)
        have d1 : p.tdiv (b.length : Int) ≤ p := by rw [Int.tdiv_eq_ediv_of_nonneg h1]; exact Int.ediv_le_self _ h1
        rw [if_neg hp, if_neg (by omega), if_pos t0, if_pos t1, q0, if_pos t2, if_pos t3, if_neg (by omega), show wrap64 (p.tdiv (b.length : Int)) = wrap64 (p.tdiv (b.length : Int)) from rfl]
        obtain ⟨v, hv⟩ := mix_ok (rd_8 h.bytes (p.tmod (b.length : Int))) (rd_8 h.bytes ((p * 7 + 3).tmod (b.length : Int))) ⟨h1, by omega⟩ ⟨d0, d1⟩
        rw [hv]
        exact ⟨_, rfl, Int.tmod_nonneg _ (by omega), fun _ => Int.tmod_lt_of_pos _ (by omega), by omega⟩
theorem text_l (j : Nat) : ∀ (k : Nat) (acc : List Int) (b : List Int) (p m : Int), j + 1 < k → Rdr b p m → acc.length + j ≤ 1000000 → m + j ≤ 800000000000 → ∃ s q, spec_l1Rd_text.l0 k acc (j : Int) b p = some (s, q) ∧ s.size = acc.length + j ∧ Rdr b q (m + j) ∧ p ≤ q := by
  induction j with
  | zero =>
    intro k acc b p m hk h ha hm
    obtain ⟨k, rfl⟩ : ∃ m, k = m + 1 := ⟨k - 1, by omega⟩
    simp only [spec_l1Rd_text.l0]
    rw [if_neg (by omega)]
    exact ⟨_, _, rfl, by rw [str_size]; omega, h.more (by omega) (by omega), by omega⟩
  | succ j ih =>
    intro k acc b p m hk h ha hm
    obtain ⟨k, rfl⟩ : ∃ m, k = m + 1 := ⟨k - 1, by omega⟩
    simp only [spec_l1Rd_text.l0]
    obtain ⟨v, hv, _⟩ := pick_ok (k := k) (by omega) h (by omega) 256
    rw [if_pos (by omega), hv]
    simp only [Option.bind_some]
    rw [if_pos (by omega), show wrap64 (((j + 1 : Nat) : Int) - 1) = (j : Int) by unfold wrap64; omega]
    obtain ⟨s, q, h1, h2, h3, h4⟩ := ih k (acc ++ [v % 256]) b (p + 1) (m + 1) (by omega) (h.more (by omega) (by omega)) (by simp; omega) (by omega)
    exact ⟨s, q, h1, by rw [h2]; simp; omega, h3.more (by omega) (by omega), by omega⟩
theorem text_ok {k : Nat} {n : Nat} (hn : n ≤ 100000) (hk : n + 2 < k) {b : List Int} {p m : Int} (h : Rdr b p m) (hm : m ≤ 600000000000) : ∃ s q, spec_l1Rd_text.f k b p (n : Int) = some (s, q) ∧ s.size ≤ n ∧ Rdr b q (m + n + 1) ∧ p ≤ q := by
  unfold spec_l1Rd_text.f
  rw [show wrap64 ((n : Int) + 1) = ((n + 1 : Nat) : Int) by unfold wrap64; omega]
  obtain ⟨v, hv, v0, v1, _⟩ := pick_ok (k := k) (by omega) h (by omega) ((n + 1 : Nat) : Int)
  rw [hv]
  simp only [Option.bind_some]
  obtain ⟨j, rfl⟩ : ∃ j : Nat, v = j := ⟨v.toNat, by omega⟩
  have := v1 (by omega)
  obtain ⟨s, q, h1, h2, h3, h4⟩ := text_l j k [] b (p + 1) (m + 1) (by omega) (h.more (by omega) (by omega)) (by simp; omega) (by omega)
  exact ⟨s, q, h1, by rw [h2]; simp; omega, h3.more (by omega) (by omega), by omega⟩
theorem many_l (f : Nat) : ∀ (k n : Nat) (s out : ByteArray), n < 2 ^ f → f < k → f ≤ 20 → s.size * 2 ^ f ≤ 1000000000000 → out.size ≤ 1000000000000000 - 1000000000000 * f → ∃ t, spec_l1Many.l0 k s (n : Int) out = some t ∧ t.size = out.size + s.size * n := by
  induction f with
  | zero =>
    intro k n s out hn hk _ hs ho
    obtain ⟨k, rfl⟩ : ∃ m, k = m + 1 := ⟨k - 1, by omega⟩
    have : n = 0 := by simpa using hn
    subst this
    simp only [spec_l1Many.l0]
    rw [if_neg (by omega)]
    exact ⟨_, rfl, by simp⟩
  | succ f ih =>
    intro k n s out hn hk hf hs ho
    obtain ⟨k, rfl⟩ : ∃ m, k = m + 1 := ⟨k - 1, by omega⟩
    simp only [spec_l1Many.l0]
    have hn20 : n < 2 ^ 20 := Nat.lt_of_lt_of_le hn (Nat.pow_le_pow_right (by omega) hf)
    have e0 : s.size * 2 ^ (f + 1) = (s.size + s.size) * 2 ^ f := by rw [Nat.pow_succ, ← Nat.mul_assoc, Nat.add_mul]; omega
    have e1 : s.size ≤ s.size * 2 ^ (f + 1) := Nat.le_mul_of_pos_right _ (Nat.pow_pos (by omega))
    have e2 : s.size + s.size ≤ s.size * 2 ^ (f + 1) := by rw [e0]; exact Nat.le_mul_of_pos_right _ (Nat.pow_pos (by omega))
    by_cases h0 : n = 0
    · subst h0
      rw [if_neg (by omega)]
      exact ⟨_, rfl, by simp⟩
    · rw [if_pos (by omega), show Int.tmod (n : Int) 2 = ((n % 2 : Nat) : Int) by rw [Int.tmod_eq_emod_of_nonneg (by omega)]; omega, show wrap64 (Int.tdiv (n : Int) 2) = ((n / 2 : Nat) : Int) by rw [Int.tdiv_eq_ediv_of_nonneg (by omega), w64 (by omega) (by omega)]; omega]
      have hh : n / 2 < 2 ^ f := by rw [Nat.pow_succ] at hn; omega
      have hd : (s ++ s).size * 2 ^ f = s.size * 2 ^ (f + 1) := by rw [e0, ByteArray.size_append]
      by_cases h1 : n % 2 = 1
      · rw [if_pos (by omega), if_pos (by omega), if_pos (by omega)]
        obtain ⟨t, h2, h3⟩ := ih k (n / 2) (s ++ s) (out ++ s) hh (by omega) (by omega) (by omega) (by rw [ByteArray.size_append]; omega)
        refine ⟨t, h2, ?_⟩
        rw [h3, ByteArray.size_append, ByteArray.size_append]
        have : s.size * n = (s.size + s.size) * (n / 2) + s.size := by
          conv => lhs; rw [show n = 2 * (n / 2) + 1 by omega]
          rw [Nat.mul_add, ← Nat.mul_assoc, Nat.mul_comm s.size 2, Nat.two_mul, Nat.mul_one]
        omega
      · rw [if_neg (by omega), if_pos (by omega)]
        obtain ⟨t, h2, h3⟩ := ih k (n / 2) (s ++ s) out hh (by omega) (by omega) (by omega) (by omega)
        refine ⟨t, h2, ?_⟩
        rw [h3, ByteArray.size_append]
        have : s.size * n = (s.size + s.size) * (n / 2) := by
          conv => lhs; rw [show n = 2 * (n / 2) by omega]
          rw [← Nat.mul_assoc, Nat.mul_comm s.size 2, Nat.two_mul]
        omega
theorem many_ok {k n : Nat} (hk : 17 ≤ k) (hn : n < 65536) (s : ByteArray) (hs : s.size ≤ 10000000) : ∃ t, spec_l1Many.f k s (n : Int) = some t ∧ t.size = s.size * n := by
  unfold spec_l1Many.f
  obtain ⟨t, h1, h2⟩ := many_l 16 k n s ⟨#[]⟩ hn (by omega) (by omega) (by omega) (by rw [show (⟨#[]⟩ : ByteArray).size = 0 from rfl]; omega)
  exact ⟨t, h1, by rw [h2, show (⟨#[]⟩ : ByteArray).size = 0 from rfl]; omega⟩
theorem open_ok (l : List Int) (h : Bytes8 l) : ∃ b, spec_l1Open.f l = some (b, 0) ∧ Rdr b 0 0 := by
  unfold spec_l1Open.f
  by_cases hl : (l.length : Int) > 2000
  · rw [if_pos hl, if_pos (by omega)]
    exact ⟨_, rfl, h.take 2000, by rw [List.length_take]; omega, by omega, by omega⟩
  · rw [if_neg hl]
    exact ⟨_, rfl, h, by omega, by omega, by omega⟩
end Go.Proofs.Ytflckegggopdnaa.Q
end
section
namespace Go.Proofs.Ytflckegggopdnaa.Q
open Go.RowKit Go.Proofs.Ytflckegggopdnaa.B Go.Proofs.YtflckegggopdnaaW.PrintWords Go.Proofs.YtflckegggopdnaaW.PrintLast Go.Proofs.YtflckegggopdnaaW.PrintMore
set_option linter.unusedVariables false
theorem bsd {α β : Type} {x : Option α} {v : α} {F : α → Option β} {r : Option β} (h : x = some v) (k : F v = r) : x.bind F = r := by rw [h]; exact k
theorem leaf_ok {k : Nat} (hk : 100 ≤ k) {b : List Int} {p m : Int} (h : Rdr b p m) (hm : m ≤ 500000000000) : ∃ s q, spec_l2Rd_leaf.f k b p = some (s, q) ∧ s.size ≤ 100 ∧ Rdr b q (m + 7) ∧ p ≤ q := by
  obtain ⟨v, e, v0, v1, v2⟩ := pick_ok (k := k) (by omega) h (by omega) 10
  have h1 : Rdr b (p + 1) (m + 1) := h.more (by omega) (by omega)
  unfold spec_l2Rd_leaf.f
  by_cases c : v = 0
  · obtain ⟨t, e2, ht⟩ := many_ok (k := k) (n := 40) (by omega) (by omega) (⟨#[109]⟩ : ByteArray) (by decide)
    refine ⟨t, p + 1, ?_, by rw [ht]; decide, h.more (by omega) (by omega), by omega⟩
    refine bsd e ?_
    rw [if_pos c]
    exact bsd e2 rfl
  · obtain ⟨s, q, e2, hs, hr, hq⟩ := text_ok (k := k) (n := 5) (by omega) (by omega) h1 (by omega)
    refine ⟨s, q, ?_, by omega, ?_, by omega⟩
    · refine bsd e ?_
      rw [if_neg c]
      exact bsd e2 rfl
    · have : m + 1 + ((5 : Nat) : Int) + 1 = m + 7 := by omega
      rw [← this]
      exact hr
theorem leaves_l (n : Nat) : ∀ (k i : Nat) (acc : List ByteArray) (b : List Int) (p m : Int), n + 101 ≤ k → Rdr b p m → m + 7 * n ≤ 400000000000 → acc.length + n ≤ 100000 → i + n ≤ 100000 → (∀ s ∈ acc, s.size ≤ 100) →
    ∃ l q, spec_l2Rd_leaves.l0 k ((i + n : Nat) : Int) acc (i : Int) b p = some (l, q) ∧ l.length = acc.length + n ∧ (∀ s ∈ l, s.size ≤ 100) ∧ Rdr b q (m + 7 * n) ∧ p ≤ q := by
  induction n with
  | zero =>
    intro k i acc b p m hk h hm ha hi hs
    obtain ⟨k, rfl⟩ : ∃ m, k = m + 1 := ⟨k - 1, by omega⟩
    simp only [spec_l2Rd_leaves.l0]
    rw [if_neg (by omega)]
    exact ⟨acc, p, rfl, rfl, hs, h.more (by omega) (by omega), by omega⟩
  | succ n ih =>
    intro k i acc b p m hk h hm ha hi hs
    obtain ⟨k, rfl⟩ : ∃ m, k = m + 1 := ⟨k - 1, by omega⟩
    obtain ⟨s, q, e, hsz, hr, hq⟩ := leaf_ok (k := k) (by omega) h (by omega)
    obtain ⟨l, q2, e2, hl, hs2, hr2, hq2⟩ := ih k (i + 1) (acc ++ [s]) b q (m + 7) (by omega) hr (by omega) (by simp; omega) (by omega) (by
      intro x hx
      rcases List.mem_append.1 hx with hx | hx
      · exact hs x hx
      · rw [List.mem_singleton.1 hx]; exact hsz)
    refine ⟨l, q2, ?_, by rw [hl, List.length_append, List.length_singleton]; omega, hs2, ?_, by omega⟩
    · simp only [spec_l2Rd_leaves.l0]
      rw [if_pos (by omega)]
      refine bsd e ?_
      rw [if_pos (by omega), step64 (by omega), show i + (n + 1) = i + 1 + n by omega]
      exact e2
    · have : m + 7 + 7 * (n : Int) = m + 7 * ((n + 1 : Nat) : Int) := by omega
      rw [← this]
      exact hr2
theorem leaves_ok {k n : Nat} (hk : n + 101 ≤ k) {b : List Int} {p m : Int} (h : Rdr b p m) (hm : m + 7 * n ≤ 400000000000) (hn : n ≤ 1000) :
    ∃ l q, spec_l2Rd_leaves.f k b p (n : Int) = some (l, q) ∧ l.length = n ∧ (∀ s ∈ l, s.size ≤ 100) ∧ Rdr b q (m + 7 * n) ∧ p ≤ q := by
  obtain ⟨l, q, e, hl, hs, hr, hq⟩ := leaves_l n k 0 [] b p m hk h hm (by simp; omega) (by omega) (by simp)
  rw [Nat.zero_add] at e
  exact ⟨l, q, e, by simpa using hl, hs, hr, hq⟩
theorem size_ok {k : Nat} (hk : 1 ≤ k) {b : List Int} {p m : Int} (h : Rdr b p m) (hm : m ≤ 500000000000) : ∃ (v : Nat) (q : Int), spec_l2Rd_size.f k b p = some ((v : Int), q) ∧ v ≤ 70 ∧ Rdr b q (m + 2) ∧ p ≤ q := by
  obtain ⟨v, e, v0, v1, v2⟩ := pick_ok (k := k) (by omega) h (by omega) 9
  have h1 : Rdr b (p + 1) (m + 1) := h.more (by omega) (by omega)
  unfold spec_l2Rd_size.f
  by_cases c : v = 0
  · obtain ⟨u, e2, u0, u1, u2⟩ := pick_ok (k := k) (by omega) h1 (by omega) 70
    refine ⟨u.toNat, p + 1 + 1, ?_, by omega, h.more (by omega) (by omega), by omega⟩
    refine bsd e ?_
    rw [if_pos c]
    refine bsd e2 ?_
    rw [Int.toNat_of_nonneg u0]
  · obtain ⟨u, e2, u0, u1, u2⟩ := pick_ok (k := k) (by omega) h1 (by omega) 20
    refine ⟨u.toNat, p + 1 + 1, ?_, by omega, h.more (by omega) (by omega), by omega⟩
    refine bsd e ?_
    rw [if_neg c]
    refine bsd e2 ?_
    rw [Int.toNat_of_nonneg u0]
theorem full_l (n : Nat) : ∀ (k i : Nat) (acc : List ByteArray), n + 1 ≤ k → acc.length + n ≤ 100000 → i + n ≤ 100000 → (∀ s ∈ acc, s.size ≤ 100) →
    ∃ l, spec_l2Full.l0 k ((i + n : Nat) : Int) acc (i : Int) = some l ∧ l.length = acc.length + n ∧ ∀ s ∈ l, s.size ≤ 100 := by
  induction n with
  | zero =>
    intro k i acc hk ha hi hs
    obtain ⟨k, rfl⟩ : ∃ m, k = m + 1 := ⟨k - 1, by omega⟩
    simp only [spec_l2Full.l0]
    rw [if_neg (by omega)]
    exact ⟨acc, rfl, rfl, hs⟩
  | succ n ih =>
    intro k i acc hk ha hi hs
    obtain ⟨k, rfl⟩ : ∃ m, k = m + 1 := ⟨k - 1, by omega⟩
    obtain ⟨l, e, hl, hs2⟩ := ih k (i + 1) (acc ++ [⟨#[]⟩]) (by omega) (by simp; omega) (by omega) (by
      intro x hx
      rcases List.mem_append.1 hx with hx | hx
      · exact hs x hx
      · rw [List.mem_singleton.1 hx]; decide)
    refine ⟨l, ?_, by rw [hl, List.length_append, List.length_singleton]; omega, hs2⟩
    simp only [spec_l2Full.l0]
    rw [if_pos (by omega), if_pos (by omega), step64 (by omega), show i + (n + 1) = i + 1 + n by omega]
    exact e
theorem full_ok {k n : Nat} (hk : n + 1 ≤ k) (hn : n ≤ 1000) : ∃ l, spec_l2Full.f k (n : Int) = some l ∧ l.length = n ∧ ∀ s ∈ l, s.size ≤ 100 := by
  obtain ⟨l, e, hl, hs⟩ := full_l n k 0 [] hk (by simp; omega) (by omega) (by simp)
  rw [Nat.zero_add] at e
  exact ⟨l, e, by simpa using hl, hs⟩
theorem some_ok {k : Nat} (hk : 1000 ≤ k) {b : List Int} {p m : Int} (h : Rdr b p m) (hm : m ≤ 300000000000) :
    ∃ l q, spec_l2Rd_some.f k b p = some (l, q) ∧ l.length ≤ 300 ∧ (∀ s ∈ l, s.size ≤ 100) ∧ Rdr b q (m + 1000) ∧ p ≤ q := by
  obtain ⟨v, e, v0, v1, v2⟩ := pick_ok (k := k) (by omega) h (by omega) 24
  have h1 : Rdr b (p + 1) (m + 1) := h.more (by omega) (by omega)
  unfold spec_l2Rd_some.f
  by_cases c : v = 0
  · obtain ⟨u, e2, u0, u1, u2⟩ := pick_ok (k := k) (by omega) h1 (by omega) 2
    obtain ⟨l, e3, hl, hs⟩ := full_ok (k := k) (n := 256 + u.toNat) (by omega) (by omega)
    refine ⟨l, p + 1 + 1, ?_, by omega, hs, h.more (by omega) (by omega), by omega⟩
    refine bsd e ?_
    rw [if_pos c]
    refine bsd e2 ?_
    rw [show wrap64 (256 + u) = ((256 + u.toNat : Nat) : Int) by unfold wrap64; omega]
    exact bsd e3 rfl
  · obtain ⟨n, q, e2, hn, hr, hq⟩ := size_ok (k := k) (by omega) h1 (by omega)
    obtain ⟨l, q2, e3, hl, hs, hr2, hq2⟩ := leaves_ok (k := k) (n := n) (by omega) hr (by omega) (by omega)
    by_cases c1 : v = 1
    · obtain ⟨t, e4, ht⟩ := many_ok (k := k) (n := 41) (by omega) (by omega) (⟨#[108]⟩ : ByteArray) (by decide)
      refine ⟨l ++ [t], q2, ?_, by simp; omega, ?_, hr2.more (by have := hr2.low; omega) (by omega), by omega⟩
      · refine bsd e ?_
        rw [if_neg c]
        refine bsd e2 (bsd e3 ?_)
        rw [if_pos c1]
        refine bsd e4 ?_
        dsimp only
        rw [if_pos (by omega)]
      · intro x hx
        rcases List.mem_append.1 hx with hx | hx
        · exact hs x hx
        · rw [List.mem_singleton.1 hx, ht]; decide
    · refine ⟨l, q2, ?_, by omega, hs, hr2.more (by have := hr2.low; omega) (by omega), by omega⟩
      refine bsd e ?_
      rw [if_neg c]
      refine bsd e2 (bsd e3 ?_)
      rw [if_neg c1]
end Go.Proofs.Ytflckegggopdnaa.Q
end
section
namespace Go.Proofs.Ytflckegggopdnaa.Q
open Go.RowKit Go.Proofs.Ytflckegggopdnaa.B Go.Proofs.YtflckegggopdnaaW.PrintWords Go.Proofs.YtflckegggopdnaaW.PrintLast Go.Proofs.YtflckegggopdnaaW.PrintMore
set_option linter.unusedVariables false
set_option linter.unusedSimpArgs false
def growP (l : List ByteArray) (m : Nat) : List SD := (gnodes m l.length).map (nodeRoot l)
theorem growP_len (l : List ByteArray) (m : Nat) : (growP l m).length = (gnodes m l.length).length := by unfold growP; rw [List.length_map]
theorem growthOf_in {l : List ByteArray} (c : leavesOk l = true) {m : Nat} (h0 : 0 < m) (h1 : m < l.length) : growthOf l (m : Int) = (growP l m, true) := by
  unfold growthOf growP gnodes
  rw [if_pos ⟨c, by omega, by omega⟩, if_neg (by omega), Int.toNat_natCast]
theorem given_root {l : List ByteArray} {m : Nat} (h0 : 0 < l.length) (h : l.length ≤ 256) {a b : Nat} (hx : (⟨(a : Int), (b : Int)⟩ : NO) ∈ gnodes m l.length) : given m l.length (growP l m) a = toSD (root ((l.take b).drop a)) := by
  obtain ⟨hj2, e2⟩ := ahead_lt (gnodes_sorted h0 h) hx
  have hj3 : ahead (gnodes m l.length) (a : Int) < (gnodes m l.length).length := hj2
  have e3 : (gnodes m l.length)[ahead (gnodes m l.length) (a : Int)] = (⟨(a : Int), (b : Int)⟩ : NO) := e2
  unfold given growP
  rw [List.getD, List.getElem?_map, List.getElem?_eq_getElem hj3, e3]
  rfl
theorem dig_root {l : List ByteArray} (h : l.length ≤ 256) (m : Nat) (f : Nat) : ∀ (lo hi : Nat), hi - lo ≤ f → lo < hi → hi ≤ l.length → Within f lo hi m l.length → digF f lo hi m (given m l.length (growP l m)) = root ((l.take hi).drop lo) := by
  induction f with
  | zero => intro lo hi a b; omega
  | succ f ih =>
    intro lo hi a b c w
    have hlen : ((l.take hi).drop lo).length = hi - lo := by rw [List.length_drop, List.length_take]; omega
    simp only [digF]
    by_cases c1 : hi ≤ m ∨ m ≤ lo
    · rw [if_pos c1, given_root (by omega) h (w.here c1)]
      rfl
    · have hs := spl_lt (n := hi - lo) (by omega) (by omega)
      have hr := root_split (l := (l.take hi).drop lo) (by omega) (by omega)
      rw [hlen, slice_take l lo hi _ (by omega), List.drop_drop] at hr
      rw [if_neg c1, ih lo (lo + spl (hi - lo)) (by omega) (by omega) (by omega) (w.left (by omega) (by omega)), ih (lo + spl (hi - lo)) hi (by omega) (by omega) c (w.right (by omega) (by omega)), hr]
theorem grow_old {l : List ByteArray} (h : l.length ≤ 256) {m : Nat} (h0 : 0 < m) (h1 : m < l.length) : (growP l m).take (popc m) = peaks (l.take m) := by
  have hl := fall_old l.length 0 l.length m (by omega) h h0 h1
  rw [Nat.sub_zero] at hl
  have hp := fall_peaks l l.length 0 l.length m (by omega) (Nat.le_refl _) h h0 h1
  rw [List.drop_zero] at hp
  unfold growP gnodes grow
  rw [List.map_append, List.take_append_of_le_length (by rw [List.length_map]; omega), List.take_of_length_le (by rw [List.length_map]; omega), hp]
theorem gcheck_proves {l : List ByteArray} (c : leavesOk l = true) (m : Nat) (hm : m ≤ l.length) : gcheck (m : Int) (l.length : Int) (root (l.take m)) (root l) (growthOf l (m : Int)).1 = 0 := by
  obtain ⟨h, _⟩ := leaves_fit c
  unfold gcheck
  rw [if_pos (by omega)]
  by_cases c0 : m = 0
  · have e1 : growthOf l (m : Int) = ([], true) := by
      unfold growthOf
      rw [if_pos ⟨c, by omega, by omega⟩, if_pos (by omega)]
    have e2 : growLen (m : Int) (l.length : Int) = 0 := by
      unfold growLen
      rw [if_pos (by omega), if_pos (by omega)]
    rw [e1, e2, if_pos (by simp), if_pos (by omega)]
    subst c0
    rw [List.take_zero, root_nil, nd_self, if_neg (by simp), if_neg]
    rintro ⟨h1, h2⟩
    obtain rfl : l = [] := List.eq_nil_of_length_eq_zero (by omega)
    rw [root_nil, nd_self] at h2
    exact absurd h2 (by simp)
  · by_cases c1 : m = l.length
    · have e1 : growthOf l (m : Int) = ([], true) := by
        unfold growthOf
        rw [if_pos ⟨c, by omega, by omega⟩, if_pos (by omega)]
      have e2 : growLen (m : Int) (l.length : Int) = 0 := by
        unfold growLen
        rw [if_pos (by omega), if_pos (by omega)]
      rw [e1, e2, if_pos (by simp), if_neg (by omega), if_pos (by omega), List.take_of_length_le (by omega), nd_self, if_neg (by simp)]
    · have hml : m < l.length := by omega
      rw [growthOf_in c (by omega) hml, growLen_in (by omega) hml h]
      dsimp only
      rw [growP_len, if_pos rfl, if_neg (by omega), if_neg (by omega), Int.toNat_natCast, Int.toNat_natCast, grow_old h (by omega) hml, peaksRoot_peaks (by rw [List.length_take]; omega), nd_self, if_neg (by simp)]
      have := dig_root h m l.length 0 l.length (by omega) (by omega) (Nat.le_refl _) (within_all m l.length)
      rw [List.take_of_length_le (Nat.le_refl _), List.drop_zero] at this
      unfold digRoot
      rw [this, nd_self, if_neg (by simp)]
theorem drawGrowth {k : Nat} (hk : 1000 ≤ k) (c : List Int) (hc : Bytes8 c) : ∃ (l : List ByteArray) (m : Int), spec_DrawGrowthOf.f k c = some (l, m) ∧ l.length ≤ 300 ∧ -1 ≤ m ∧ m ≤ (l.length : Int) + 1 := by
  obtain ⟨b, e1, hr⟩ := open_ok c hc
  obtain ⟨l, q, e2, hl, hs, hr2, _⟩ := some_ok (k := k) hk hr (by omega)
  obtain ⟨v, e4, v0, v1, v2⟩ := pick_ok (k := k) (by omega) hr2 (by omega) ((l.length : Int) + 3)
  have v3 := v1 (by omega)
  refine ⟨l, v - 1, ?_, hl, by omega, by omega⟩
  unfold spec_DrawGrowthOf.f spec_l3Open.f spec_l2Open.f
  refine bsk e1 (bsk e2 ?_)
  rw [show wrap64 ((l.length : Int) + 3) = (l.length : Int) + 3 by unfold wrap64; omega]
  refine bsk e4 ?_
  rw [show wrap64 (v - 1) = v - 1 by unfold wrap64; omega]
end Go.Proofs.Ytflckegggopdnaa.Q
end
section
namespace Go.Proofs.Ytflckegggopdnaa.Pure
open Go.RowKit Go.Proofs.Ytflckegggopdnaa.B Go.Proofs.Ytflckegggopdnaa.Q Go.Proofs.YtflckegggopdnaaW.PrintWords Go.Proofs.YtflckegggopdnaaW.PrintLast
set_option linter.unusedVariables false
set_option linter.unusedSimpArgs false
theorem treePoint_grow {k : Nat} (hk : 40000 < k) {l : List ByteArray} (c : leavesOk l = true) : impl_TreePoint.f k l = some ((l.length : Int), root l) := by
  obtain ⟨h2, hz⟩ := leaves_fit c
  unfold impl_TreePoint.f
  refine bsk (impl_leaves l (by omega) (by omega)) ?_
  rw [if_pos c]
  exact bsk (impl_root (by omega) h2 hz) rfl
theorem growthProves_at (k : Nat) (hk : 1099511627790 < k) (c : List Int) (hc : Bytes8 c) : laws_FnGrowthProves.f (k + 4) c = some true := by
  unfold laws_FnGrowthProves.f
  by_cases h0 : (c.length : Int) > 1048576
  · rw [if_pos h0]
  · rw [if_neg h0]
    obtain ⟨l, m, e1, hl, m0, m1⟩ := drawGrowth (k := k + 4) (by omega) c hc
    refine bsk e1 (bsk (impl_growthOf' (l := l) (by omega) (by omega) m) (bsk (spec_leaves l (by omega) (by omega)) ?_))
    dsimp only
    have hbad : ¬ (leavesOk l = true ∧ 0 ≤ m ∧ m ≤ (l.length : Int)) → laws_FnGrowthProves.j0 (k + 4) l m (growthOf l m).1 (growthOf l m).2 true = some true := by
      intro hn
      unfold growthOf
      rw [if_neg hn, laws_FnGrowthProves.j0, if_pos rfl, if_neg (by simp)]
      rfl
    by_cases cl : leavesOk l = true
    · rw [if_pos cl]
      obtain ⟨h2, hz⟩ := leaves_fit cl
      by_cases c1 : m < 0
      · rw [if_pos c1]
        exact hbad (fun h => by omega)
      · rw [if_neg c1]
        by_cases c2 : m > (l.length : Int)
        · rw [decide_eq_true c2]
          exact hbad (fun h => by omega)
        · rw [decide_eq_false c2]
          obtain ⟨n, rfl⟩ : ∃ n : Nat, m = (n : Int) := ⟨m.toNat, by omega⟩
          have hn : n ≤ l.length := by omega
          have hok : (growthOf l (n : Int)).2 = true := by
            unfold growthOf
            rw [if_pos ⟨cl, by omega, by omega⟩]
            split <;> rfl
          have hlen : (((growthOf l (n : Int)).1.length : Nat) : Int) = growLen (n : Int) (l.length : Int) := by
            unfold growthOf growLen
            rw [if_pos ⟨cl, by omega, by omega⟩, if_pos (show 0 ≤ (n : Int) ∧ (n : Int) ≤ (l.length : Int) ∧ (l.length : Int) ≤ 256 by omega)]
            by_cases c3 : (n : Int) = 0 ∨ (n : Int) = (l.length : Int)
            · rw [if_pos c3, if_pos c3]; rfl
            · rw [if_neg c3, if_neg c3, Int.toNat_natCast, Int.toNat_natCast]
              simp
          have hlen2 := growthOf_len (l := l) (by omega) (n : Int)
          rw [laws_FnGrowthProves.j0, if_neg (by simp), if_pos hok]
          refine bsk (impl_growLen (by omega) _ _) ?_
          rw [if_pos hlen]
          refine bsk (spec_growLen (by omega) _ _) ?_
          rw [hlen, bne_self_eq_false, laws_FnGrowthProves.j1, if_neg (by simp), if_pos (by omega), if_pos (by omega), Int.toNat_natCast]
          refine bsk (treePoint_grow (by omega) (leavesOk_take cl n)) (bsk (treePoint_grow (by omega) cl) ?_)
          have hg := gcheck_proves cl n hn
          have e2 : ((l.take n).length : Int) = (n : Int) := by rw [List.length_take]; omega
          refine bsk (v := 0) ?_ rfl
          show impl_GrowthCheck.f (k + 2) ((l.take n).length : Int) _ _ _ _ _ _ _ _ _ _ = _
          rw [e2, ← hg]
          exact impl_gcheck (k := k) (by omega) _ _ _ _ (by omega)
    · rw [if_neg cl]
      exact hbad (fun h => cl h.1)
theorem FnGrowthProves (y0 : List Int) (h : y0.length ≤ 9223372036854775807 ∧ ∀ y_ ∈ y0, (Lit.int .u8 y_).wf = true) : ∃ k, laws_FnGrowthProves.f k y0 = some true := ⟨1099511627791 + 4, growthProves_at _ (by omega) y0 fun x hx => by
    have := h.2 x hx
    simp [Lit.wf, IntKind.min, IntKind.max, IntKind.signed, IntKind.bits] at this
    omega⟩
end Go.Proofs.Ytflckegggopdnaa.Pure
end
