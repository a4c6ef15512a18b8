/- Texts that this claim's law leans on, without what nothing names. What each says stands at its theorems; conditions stand in them. (Put together by the session's program shake.py; Lean checks it.) -/
import Derived.Lib.EndianBits
import Derived.Test.YtflckegggopdnaaZCCFLawsFnExactClashOfChain
set_option linter.unusedVariables false
set_option linter.unusedSimpArgs false
namespace Go.Proofs.Ytflckegggopdnaa.Q
section
open Go.RowKit Go.Proofs.Ytflckegggopdnaa.B Go.Proofs.YtflckegggopdnaaW
theorem w64 {x : Int} (h0 : -9223372036854775808 ≤ x) (h1 : x ≤ 9223372036854775807) : wrap64 x = x := by unfold wrap64; omega
theorem spec_in {a lo hi : Int} : spec_l1In.f a lo hi = some (decide (lo ≤ a ∧ a ≤ hi)) := by
 unfold spec_l1In.f
 by_cases h : a ≥ lo
 ·rw [if_pos h]; simp [h]
 ·rw [if_neg h]; simp [h]
theorem impl_in {a lo hi : Int} : impl_in.f a lo hi = some (decide (lo ≤ a ∧ a ≤ hi)) := by
 unfold impl_in.f
 by_cases h : a ≥ lo
 ·rw [if_pos h]; simp [h]
 ·rw [if_neg h]; simp [h]
def splAux : Nat → Nat → Nat → Nat
 | 0, _, c => c
 | f + 1, n, c => if 2 * c < n then splAux f n (2 * c) else c
def spl (n : Nat) : Nat := splAux 7 n 1
theorem twice (c f : Nat) : 2 * (2 * c) * 2 ^ f = 2 * c * 2 ^ (f + 1) := by rw [Nat.pow_succ]; ac_rfl
theorem splAux_is (f : Nat) : ∀ (n c j : Nat), c = 2 ^ j → c < n → n ≤ 2 * c * 2 ^ f → ∃ e, splAux f n c = 2 ^ e ∧ 2 ^ e < n ∧ n ≤ 2 ^ (e + 1) ∧ e ≤ j + f := by
 induction f with
 | zero => intro n c j hc h1 h2; exact ⟨j, hc, by omega, by rw [Nat.pow_succ]; omega, by omega⟩
 | succ f ih =>
  intro n c j hc h1 h2
  unfold splAux
  by_cases h : 2 * c < n
  ·rw [if_pos h]
   obtain ⟨e, he, h3, h4, h5⟩ := ih n (2 * c) (j + 1) (by rw [hc, Nat.pow_succ]; omega) h (by rw [twice]; exact h2)
   exact ⟨e, he, h3, h4, by omega⟩
  ·rw [if_neg h]
   exact ⟨j, hc, by omega, by rw [Nat.pow_succ]; omega, by omega⟩
theorem spl_is {n : Nat} (h0 : 2 ≤ n) (h1 : n ≤ 256) : ∃ e, spl n = 2 ^ e ∧ 2 ^ e < n ∧ n ≤ 2 ^ (e + 1) ∧ e ≤ 7 := by
 obtain ⟨e, h⟩ := splAux_is 7 n 1 0 rfl (by omega) (by omega)
 exact ⟨e, h.1, h.2.1, h.2.2.1, by have := h.2.2.2; omega⟩
theorem spl_lt {n : Nat} (h0 : 2 ≤ n) (h1 : n ≤ 256) : 1 ≤ spl n ∧ spl n < n ∧ n ≤ 2 * spl n := by
 obtain ⟨e, he, h2, h3, _⟩ := spl_is h0 h1
 rw [Nat.pow_succ] at h3
 have : 0 < 2 ^ e := Nat.pow_pos (by omega)
 omega
theorem spec_split_l (f : Nat) : ∀ (k n c : Nat), f < k → n ≤ 2 * c * 2 ^ f → n ≤ 256 → c ≤ 256 → spec_TreeSplit.l0 k (n : Int) (c : Int) = some ((splAux f n c : Nat) : Int) := by
 induction f with
 | zero =>
  intro k n c hk h2 hn hc
  obtain ⟨k, rfl⟩ : ∃ m, k = m + 1 := ⟨k - 1, by omega⟩
  simp only [spec_TreeSplit.l0, splAux]
  rw [w64 (by omega) (by omega), if_neg (by omega)]
 | succ f ih =>
  intro k n c hk h2 hn hc
  obtain ⟨k, rfl⟩ : ∃ m, k = m + 1 := ⟨k - 1, by omega⟩
  simp only [spec_TreeSplit.l0, splAux]
  rw [w64 (by omega) (by omega)]
  by_cases h : 2 * c < n
  ·rw [if_pos (by omega), if_pos h]
   have := ih k n (2 * c) (by omega) (by rw [twice]; exact h2) hn (by omega)
   rw [show ((2 * c : Nat) : Int) = 2 * (c : Int) by omega] at this
   exact this
  ·rw [if_neg (by omega), if_neg h]
theorem impl_split_l (k : Nat) : ∀ x y, impl_TreeSplit.l0 k x y = spec_TreeSplit.l0 k x y := by
 induction k with
 | zero => intro x y; rfl
 | succ k ih => intro x y; simp only [impl_TreeSplit.l0, spec_TreeSplit.l0, ih, Int.mul_comm y 2]
theorem spec_split {k n : Nat} (hk : 8 ≤ k) (h0 : 2 ≤ n) (h1 : n ≤ 256) : spec_TreeSplit.f k (n : Int) = some ((spl n : Nat) : Int) := by
 unfold spec_TreeSplit.f
 rw [spec_in]
 simp only [Option.bind_some]
 rw [if_pos (by simp; omega)]
 exact spec_split_l 7 k n 1 (by omega) (by omega) h1 (by omega)
theorem impl_is_spec_split (k : Nat) (a : Int) : impl_TreeSplit.f k a = spec_TreeSplit.f k a := by
 unfold impl_TreeSplit.f spec_TreeSplit.f
 rw [impl_in, spec_in]
 simp only [Option.bind_some, impl_split_l]
theorem impl_split {k n : Nat} (hk : 8 ≤ k) (h0 : 2 ≤ n) (h1 : n ≤ 256) : impl_TreeSplit.f k (n : Int) = some ((spl n : Nat) : Int) := by
 rw [impl_is_spec_split, spec_split hk h0 h1]
abbrev NO := S100
def wayF : Nat → Nat → Nat → Nat → List NO
 | 0, _, _, _ => []
 | f + 1, i, lo, hi => if hi - lo ≤ 1 then [] else
   (⟨(lo : Int), (hi : Int)⟩ : NO) :: (if i < lo + spl (hi - lo) then wayF f i lo (lo + spl (hi - lo)) else wayF f i (lo + spl (hi - lo)) hi)
theorem halves {k lo hi : Nat} (hk : 8 ≤ k) (h0 : lo + 2 ≤ hi) (h1 : hi ≤ 256) : impl_node_halves.f k (lo : Int) (hi : Int) = some ((lo : Int), ((lo + spl (hi - lo) : Nat) : Int), ((lo + spl (hi - lo) : Nat) : Int), (hi : Int)) := by
 unfold impl_node_halves.f
 have hs := spl_lt (n := hi - lo) (by omega) (by omega)
 rw [show wrap64 ((hi : Int) - (lo : Int)) = ((hi - lo : Nat) : Int) by unfold wrap64; omega, impl_split hk (by omega) (by omega)]
 simp only [Option.bind_some]
 rw [show wrap64 ((lo : Int) + ((spl (hi - lo) : Nat) : Int)) = ((lo + spl (hi - lo) : Nat) : Int) by unfold wrap64; omega]
theorem way_l (f : Nat) : ∀ (k i lo hi : Nat) (acc : List NO), hi - lo ≤ f → lo ≤ hi → hi ≤ 256 → f + 9 ≤ k → acc.length + f ≤ 1000000 → impl_way.l0 k (i : Int) acc (lo : Int) (hi : Int) = some (acc ++ wayF f i lo hi) := by
 induction f with
 | zero =>
  intro k i lo hi acc hf h0 h1 hk ha
  obtain ⟨k, rfl⟩ : ∃ m, k = m + 1 := ⟨k - 1, by omega⟩
  simp only [impl_way.l0, wayF]
  rw [if_neg (by unfold wrap64; omega)]
  simp
 | succ f ih =>
  intro k i lo hi acc hf h0 h1 hk ha
  obtain ⟨k, rfl⟩ : ∃ m, k = m + 1 := ⟨k - 1, by omega⟩
  simp only [impl_way.l0, wayF]
  by_cases h : hi - lo ≤ 1
  ·rw [if_neg (by unfold wrap64; omega), if_pos h]
   simp
  ·have hs := spl_lt (n := hi - lo) (by omega) (by omega)
   rw [if_pos (by unfold wrap64; omega), if_neg h, if_pos (by omega), halves (by omega) (by omega) h1]
   simp only [Option.bind_some]
   by_cases hi' : i < lo + spl (hi - lo)
   ·rw [if_pos (by omega), if_pos hi', ih _ _ _ _ _ (by omega) (by omega) (by omega) (by omega) (by simp; omega)]
    simp
   ·rw [if_neg (by omega), if_neg hi', ih _ _ _ _ _ (by omega) (by omega) (by omega) (by omega) (by simp; omega)]
    simp
theorem wayF_len (f : Nat) : ∀ (i lo hi : Nat), hi - lo ≤ f → (wayF f i lo hi).length ≤ f := by
 induction f with
 | zero => intro i lo hi h; simp [wayF]
 | succ f ih =>
  intro i lo hi h
  simp only [wayF]
  by_cases h1 : hi - lo ≤ 1
  ·rw [if_pos h1]; simp
  ·rw [if_neg h1]
   by_cases h256 : hi - lo ≤ 256
   ·have hs := spl_lt (n := hi - lo) (by omega) h256
    split <;> simp only [List.length_cons] <;> refine Nat.succ_le_succ (ih _ _ _ (by omega))
   ·split <;> simp only [List.length_cons] <;> refine Nat.succ_le_succ ?_
    all_goals exact wayF_len' f _ _ _
where
 wayF_len' : ∀ (f i lo hi : Nat), (wayF f i lo hi).length ≤ f
  | 0, _, _, _ => by simp [wayF]
  | f + 1, i, lo, hi => by
   simp only [wayF]
   split
   ·simp
   ·split <;> simp only [List.length_cons] <;> exact Nat.succ_le_succ (wayF_len' f _ _ _)
def way (n i : Nat) : List NO := wayF n i 0 n
theorem impl_way {k n i : Nat} (hk : 300 ≤ k) (h : n ≤ 256) : impl_way.f k (n : Int) (i : Int) = some (way n i) := by
 unfold impl_way.f
 have := way_l n k i 0 n [] (by omega) (by omega) h (by omega) (by simp; omega)
 simpa [way] using this
theorem path_l (f : Nat) : ∀ (k i lo hi d : Nat), hi - lo ≤ f → lo ≤ hi → lo ≤ i → i ≤ 256 → hi ≤ 256 → f + 9 ≤ k → d + f ≤ 1000000 → spec_PathLen.l0 k ((hi - lo : Nat) : Int) ((i - lo : Nat) : Int) (d : Int) = some ((d + (wayF f i lo hi).length : Nat) : Int) := by
 induction f with
 | zero =>
  intro k i lo hi d hf h0 hi0 hi1 h1 hk ha
  obtain ⟨k, rfl⟩ : ∃ m, k = m + 1 := ⟨k - 1, by omega⟩
  simp only [spec_PathLen.l0, wayF]
  rw [if_neg (by omega)]
  simp
 | succ f ih =>
  intro k i lo hi d hf h0 hi0 hi1 h1 hk ha
  obtain ⟨k, rfl⟩ : ∃ m, k = m + 1 := ⟨k - 1, by omega⟩
  simp only [spec_PathLen.l0, wayF]
  by_cases h : hi - lo ≤ 1
  ·rw [if_neg (by omega), if_pos h]
   simp
  ·have hs := spl_lt (n := hi - lo) (by omega) (by omega)
   rw [if_pos (by omega), if_neg h, spec_split (by omega) (by omega) (by omega)]
   simp only [Option.bind_some]
   rw [show wrap64 ((d : Int) + 1) = ((d + 1 : Nat) : Int) by unfold wrap64; omega]
   by_cases hi' : i < lo + spl (hi - lo)
   ·rw [if_pos (by omega), if_pos hi']
    have := ih k i lo (lo + spl (hi - lo)) (d + 1) (by omega) (by omega) hi0 hi1 (by omega) (by omega) (by omega)
    rw [show lo + spl (hi - lo) - lo = spl (hi - lo) by omega] at this
    rw [this]
    simp only [List.length_cons]
    congr 2
    omega
   ·rw [if_neg (by omega), if_neg hi', show wrap64 (((hi - lo : Nat) : Int) - ((spl (hi - lo) : Nat) : Int)) = ((hi - (lo + spl (hi - lo)) : Nat) : Int) by unfold wrap64; omega,
     show wrap64 (((i - lo : Nat) : Int) - ((spl (hi - lo) : Nat) : Int)) = ((i - (lo + spl (hi - lo)) : Nat) : Int) by unfold wrap64; omega]
    rw [ih k i (lo + spl (hi - lo)) hi (d + 1) (by omega) (by omega) (by omega) hi1 h1 (by omega) (by omega)]
    simp only [List.length_cons]
    congr 2
    omega
def pathLen (a b : Int) : Int := if 1 ≤ a ∧ a ≤ 256 ∧ 0 ≤ b ∧ b < a then ((way a.toNat b.toNat).length : Int) else -1
theorem spec_pathLen {k : Nat} (hk : 300 ≤ k) (a b : Int) : spec_PathLen.f k a b = some (pathLen a b) := by
 unfold spec_PathLen.f spec_l3Place.f pathLen
 rw [spec_in]
 simp only [Option.bind_some]
 by_cases h : 1 ≤ a ∧ a ≤ 256
 ·rw [if_pos (by simp; omega), spec_in]
  simp only [Option.bind_some]
  rw [show wrap64 (a - 1) = a - 1 by unfold wrap64; omega]
  by_cases h2 : 0 ≤ b ∧ b < a
  ·rw [if_pos (by simp; omega), if_pos (by omega)]
   have := path_l a.toNat k b.toNat 0 a.toNat 0 (by omega) (by omega) (by omega) (by omega) (by omega) (by omega) (by omega)
   rw [show ((a.toNat - 0 : Nat) : Int) = a by omega, show ((b.toNat - 0 : Nat) : Int) = b by omega] at this
   rw [show (0 : Int) = ((0 : Nat) : Int) by rfl, this]
   simp [way]
  ·rw [if_neg (by simp; omega), if_neg (by omega)]
 ·rw [if_neg (by simp; omega), if_neg (by omega)]
  simp
theorem impl_pathLen {k : Nat} (hk : 300 ≤ k) (a b : Int) : impl_PathLen.f k a b = some (pathLen a b) := by
 unfold impl_PathLen.f pathLen
 rw [impl_in]
 simp only [Option.bind_some]
 by_cases h : 1 ≤ a ∧ a ≤ 256
 ·rw [if_pos (by simp; omega), impl_in]
  simp only [Option.bind_some]
  rw [show wrap64 (a - 1) = a - 1 by unfold wrap64; omega]
  by_cases h2 : 0 ≤ b ∧ b < a
  ·rw [if_pos (by simp; omega), if_pos (by omega)]
   have := impl_way (n := a.toNat) (i := b.toNat) hk (by omega)
   rw [show ((a.toNat : Nat) : Int) = a by omega, show ((b.toNat : Nat) : Int) = b by omega] at this
   rw [this]
   rfl
  ·rw [if_neg (by simp; omega), if_neg (by omega)]
 ·rw [if_neg (by simp; omega), if_neg (by omega)]
def pc : Nat → Nat → Nat
 | 0, _ => 0
 | f + 1, n => n % 2 + pc f (n / 2)
def popc (n : Nat) : Nat := pc 9 n
theorem pc_zero (f : Nat) : pc f 0 = 0 := by
 induction f with
 | zero => rfl
 | succ f ih => simp [pc, ih]
theorem spec_count_l (f : Nat) : ∀ (k n c : Nat), f < k → n < 2 ^ f → n ≤ 256 → c ≤ 256 * 256 - 256 * f → f ≤ 9 → spec_PeaksCount.l0 k (n : Int) (c : Int) = some ((c + pc f n : Nat) : Int) := by
 induction f with
 | zero =>
  intro k n c hk hn _ hc _
  obtain ⟨k, rfl⟩ : ∃ m, k = m + 1 := ⟨k - 1, by omega⟩
  have : n = 0 := by simpa using hn
  subst this
  simp only [spec_PeaksCount.l0, pc]
  rw [if_neg (by omega)]
  simp
 | succ f ih =>
  intro k n c hk hn hn2 hc hf
  obtain ⟨k, rfl⟩ : ∃ m, k = m + 1 := ⟨k - 1, by omega⟩
  simp only [spec_PeaksCount.l0, pc]
  by_cases h : n = 0
  ·subst h
   rw [if_neg (by omega)]
   simp [pc_zero]
  ·rw [if_pos (by omega), show Int.tdiv (n : Int) 2 = ((n / 2 : Nat) : Int) by rw [Int.tdiv_eq_ediv_of_nonneg (by omega)]; omega, show Int.tmod (n : Int) 2 = ((n % 2 : Nat) : Int) by rw [Int.tmod_eq_emod_of_nonneg (by omega)]; omega,
    w64 (by omega) (by omega), w64 (by omega) (by omega), show (c : Int) + ((n % 2 : Nat) : Int) = ((c + n % 2 : Nat) : Int) by omega]
   rw [ih k (n / 2) (c + n % 2) (by omega) (by rw [Nat.pow_succ] at hn; omega) (by omega) (by omega) (by omega)]
   congr 2
   omega
theorem spec_count {k n : Nat} (hk : 10 ≤ k) (h : n ≤ 256) : spec_PeaksCount.f k (n : Int) = some ((popc n : Nat) : Int) := by
 unfold spec_PeaksCount.f
 rw [spec_in]
 simp only [Option.bind_some]
 rw [if_pos (by simp; omega)]
 have := spec_count_l 9 k n 0 (by omega) (by omega) h (by omega) (by omega)
 simpa [popc] using this
theorem ones64 : ∀ n : Fin 257, bits_OnesCount64.f ((n.val : Nat) : Int) = some ((popc n.val : Nat) : Int) := by decide +kernel
theorem impl_count {n : Nat} (h : n ≤ 256) : impl_PeaksCount.f (n : Int) = some ((popc n : Nat) : Int) := by
 unfold impl_PeaksCount.f
 rw [impl_in]
 simp only [Option.bind_some]
 rw [if_pos (by simp; omega), show IntKind.u64.wrap (n : Int) = (n : Int) by simp [IntKind.wrap, IntKind.signed, IntKind.bits]; omega]
 unfold bits_OnesCount.f
 rw [ones64 ⟨n, by omega⟩]
 rfl
def fallF : Nat → Nat → Nat → Nat → List NO × List NO
 | 0, _, _, _ => ([], [])
 | f + 1, lo, hi, m => if hi ≤ m then ([⟨(lo : Int), (hi : Int)⟩], []) else if m ≤ lo then ([], [⟨(lo : Int), (hi : Int)⟩]) else
   ((fallF f lo (lo + spl (hi - lo)) m).1 ++ (fallF f (lo + spl (hi - lo)) hi m).1, (fallF f lo (lo + spl (hi - lo)) m).2 ++ (fallF f (lo + spl (hi - lo)) hi m).2)
theorem fall_len (f : Nat) : ∀ (lo hi m : Nat), hi - lo ≤ f → hi ≤ 256 → lo < hi → (fallF f lo hi m).1.length + (fallF f lo hi m).2.length ≤ hi - lo := by
 induction f with
 | zero => intro lo hi m h; simp [fallF]
 | succ f ih =>
  intro lo hi m h h1 h2
  simp only [fallF]
  by_cases ha : hi ≤ m
  ·rw [if_pos ha]; simp; omega
  ·rw [if_neg ha]
   by_cases hb : m ≤ lo
   ·rw [if_pos hb]; simp; omega
   ·rw [if_neg hb]
    have hs := spl_lt (n := hi - lo) (by omega) (by omega)
    have i1 := ih lo (lo + spl (hi - lo)) m (by omega) (by omega) (by omega)
    have i2 := ih (lo + spl (hi - lo)) hi m (by omega) (by omega) (by omega)
    simp only [List.length_append]
    omega
theorem fall_l (f : Nat) : ∀ (k lo hi m : Nat) (a b : List NO), hi - lo ≤ f → lo < hi → hi ≤ 256 → f + 9 ≤ k → a.length + (hi - lo) ≤ 1000000 → b.length + (hi - lo) ≤ 1000000 → impl_fall.f k (lo : Int) (hi : Int) (m : Int) a b = some (a ++ (fallF f lo hi m).1, b ++ (fallF f lo hi m).2) := by
 induction f with
 | zero => intro k lo hi m a b h h0; omega
 | succ f ih =>
  intro k lo hi m a b h h0 h1 hk ha hb
  obtain ⟨k, rfl⟩ : ∃ m, k = m + 1 := ⟨k - 1, by omega⟩
  simp only [impl_fall.f, fallF]
  by_cases c1 : hi ≤ m
  ·rw [if_pos (by omega), if_pos (by omega), if_pos c1]
   simp
  ·rw [if_neg (by omega), if_neg c1]
   by_cases c2 : m ≤ lo
   ·rw [if_pos (by omega), if_pos (by omega), if_pos c2]
    simp
   ·rw [if_neg (by omega), if_neg c2]
    have hs := spl_lt (n := hi - lo) (by omega) (by omega)
    have l1 := fall_len f lo (lo + spl (hi - lo)) m (by omega) (by omega) (by omega)
    rw [halves (by omega) (by omega) h1]
    simp only [Option.bind_some]
    rw [ih _ _ _ _ _ _ (by omega) (by omega) (by omega) (by omega) (by omega) (by omega)]
    simp only [Option.bind_some]
    rw [ih _ _ _ _ _ _ (by omega) (by omega) (by omega) (by omega) (by simp; omega) (by simp; omega)]
    simp
def grow (m n : Nat) : List NO × List NO := fallF n 0 n m
theorem impl_nodes {k m n : Nat} (hk : 300 ≤ k) (h0 : 0 < n) (h : n ≤ 256) : impl_growthNodes.f k (m : Int) (n : Int) = some (grow m n) := by
 unfold impl_growthNodes.f
 have := fall_l n k 0 n m [] [] (by omega) h0 h (by omega) (by simp; omega) (by simp; omega)
 rw [show ((0 : Nat) : Int) = 0 by rfl] at this
 rw [this]
 rfl
theorem rests_l (f : Nat) : ∀ (k lo hi m n : Nat), hi - lo ≤ f → lo < hi → hi ≤ n → n ≤ 256 → 2 * f + 10 ≤ k → spec_l3Rests.f k (lo : Int) (hi : Int) (m : Int) (n : Int) = some (((fallF f lo hi m).2.length : Nat) : Int) := by
 induction f with
 | zero => intro k lo hi m n h h0; omega
 | succ f ih =>
  intro k lo hi m n h h0 h1 h2 hk
  obtain ⟨k, rfl⟩ : ∃ m, k = m + 2 := ⟨k - 2, by omega⟩
  simp only [spec_l3Rests.f, spec_l3Rests.j0, fallF]
  by_cases c1 : hi ≤ m
  ·rw [if_pos (by omega), if_pos c1]
   simp
  ·rw [if_neg (by omega), if_neg c1]
   by_cases c2 : m ≤ lo
   ·rw [if_pos c2, if_neg (by simp; omega), if_pos (by omega)]
    simp
   ·rw [if_neg c2, if_neg (by simp; omega), if_neg (by omega)]
    have hs := spl_lt (n := hi - lo) (by omega) (by omega)
    have l1 := fall_len f lo (lo + spl (hi - lo)) m (by omega) (by omega) (by omega)
    have l2 := fall_len f (lo + spl (hi - lo)) hi m (by omega) (by omega) (by omega)
    rw [show wrap64 ((hi : Int) - (lo : Int)) = ((hi - lo : Nat) : Int) by unfold wrap64; omega, spec_split (by omega) (by omega) (by omega)]
    simp only [Option.bind_some]
    rw [show wrap64 ((lo : Int) + ((spl (hi - lo) : Nat) : Int)) = ((lo + spl (hi - lo) : Nat) : Int) by unfold wrap64; omega]
    rw [ih _ _ _ _ _ (by omega) (by omega) (by omega) (by omega) (by omega)]
    simp only [Option.bind_some]
    rw [ih _ _ _ _ _ (by omega) (by omega) (by omega) (by omega) (by omega)]
    simp only [Option.bind_some, List.length_append]
    congr 1
    unfold wrap64
    omega
theorem pc_add : ∀ e : Fin 8, ∀ x : Fin 129, x.val < 2 ^ e.val → pc 9 (2 ^ e.val + x.val) = 1 + pc 9 x.val := by decide +kernel
theorem fall_zero (f : Nat) : ∀ (lo hi m : Nat), hi - lo ≤ f → hi ≤ 256 → lo < hi → m ≤ lo → (fallF f lo hi m).1.length = 0 := by
 intro lo hi m h h1 h2 h3
 obtain ⟨f, rfl⟩ : ∃ g, f = g + 1 := ⟨f - 1, by omega⟩
 simp only [fallF]
 rw [if_neg (by omega), if_pos h3]
 rfl
theorem fall_one (f : Nat) : ∀ (lo hi m : Nat), hi - lo ≤ f → lo < hi → hi ≤ m → (fallF f lo hi m).1.length = 1 := by
 intro lo hi m h h1 h3
 obtain ⟨f, rfl⟩ : ∃ g, f = g + 1 := ⟨f - 1, by omega⟩
 simp only [fallF]
 rw [if_pos h3]
 rfl
theorem fall_old (f : Nat) : ∀ (lo hi m : Nat), hi - lo ≤ f → hi ≤ 256 → lo < m → m < hi → (fallF f lo hi m).1.length = popc (m - lo) := by
 induction f with
 | zero => intro lo hi m h h1 h2 h3; omega
 | succ f ih =>
  intro lo hi m h h1 h2 h3
  simp only [fallF]
  rw [if_neg (by omega), if_neg (by omega)]
  obtain ⟨e, he, h4, h5, h6⟩ := spl_is (n := hi - lo) (by omega) (by omega)
  have hs := spl_lt (n := hi - lo) (by omega) (by omega)
  rw [Nat.pow_succ] at h5
  simp only [List.length_append]
  rcases Nat.lt_trichotomy m (lo + spl (hi - lo)) with c | c | c
  ·rw [ih _ _ _ (by omega) (by omega) h2 c, fall_zero f _ _ _ (by omega) (by omega) (by omega) (by omega)]
   rfl
  ·rw [fall_one f _ _ _ (by omega) (by omega) (by omega), fall_zero f _ _ _ (by omega) (by omega) (by omega) (by omega)]
   have := pc_add ⟨e, by omega⟩ ⟨0, by omega⟩ (Nat.pow_pos (by omega))
   simp only [Nat.add_zero] at this
   rw [show m - lo = 2 ^ e by omega, popc, this]
   rfl
  ·rw [fall_one f _ _ _ (by omega) (by omega) (by omega), ih _ _ _ (by omega) h1 c h3]
   have h7 : m - (lo + spl (hi - lo)) < 2 ^ e := by omega
   have h8 : (2 : Nat) ^ e ≤ 2 ^ 7 := Nat.pow_le_pow_right (by omega) h6
   have := pc_add ⟨e, by omega⟩ ⟨m - (lo + spl (hi - lo)), by omega⟩ h7
   rw [show m - lo = 2 ^ e + (m - (lo + spl (hi - lo))) by omega, popc, popc, this]
def growLen (m n : Int) : Int := if 0 ≤ m ∧ m ≤ n ∧ n ≤ 256 then (if m = 0 ∨ m = n then 0 else (((grow m.toNat n.toNat).1.length + (grow m.toNat n.toNat).2.length : Nat) : Int)) else -1
theorem impl_growLen {k : Nat} (hk : 300 ≤ k) (m n : Int) : impl_GrowthLen.f k m n = some (growLen m n) := by
 unfold impl_GrowthLen.f impl_mayGrow.f growLen
 rw [impl_in]
 simp only [Option.bind_some]
 by_cases h : 0 ≤ n ∧ n ≤ 256
 ·rw [if_pos (by simp; omega), impl_in]
  simp only [Option.bind_some]
  by_cases h2 : 0 ≤ m ∧ m ≤ n
  ·rw [if_pos (by simp; omega), if_pos (show 0 ≤ m ∧ m ≤ n ∧ n ≤ 256 by omega)]
   by_cases c : m = 0
   ·rw [if_pos c, if_pos (Or.inl c)]
   ·rw [if_neg c]
    by_cases c2 : m = n
    ·rw [if_pos c2, if_pos (Or.inr c2)]
    ·rw [if_neg c2, if_neg (by omega)]
     have := impl_nodes (m := m.toNat) (n := n.toNat) hk (by omega) (by omega)
     rw [show ((m.toNat : Nat) : Int) = m by omega, show ((n.toNat : Nat) : Int) = n by omega] at this
     rw [this]
     simp only [Option.bind_some]
     have := fall_len n.toNat 0 n.toNat m.toNat (by omega) (by omega) (by omega)
     unfold grow
     generalize (fallF n.toNat 0 n.toNat m.toNat).1.length = A at *
     generalize (fallF n.toNat 0 n.toNat m.toNat).2.length = B at *
     unfold wrap64
     refine congrArg some ?_
     omega
  ·rw [if_neg (by simp; omega), if_neg (by omega)]
 ·rw [if_neg (by simp; omega), if_neg (show ¬ (0 ≤ m ∧ m ≤ n ∧ n ≤ 256) by omega)]
  rfl
theorem spec_growLen {k : Nat} (hk : 600 ≤ k) (m n : Int) : spec_GrowthLen.f k m n = some (growLen m n) := by
 obtain ⟨k, rfl⟩ : ∃ m, k = m + 1 := ⟨k - 1, by omega⟩
 unfold spec_GrowthLen.f spec_l3Sizes.f growLen
 rw [spec_in]
 simp only [Option.bind_some]
 by_cases h2 : 0 ≤ m ∧ m ≤ n
 ·rw [if_pos (by simp; omega)]
  simp only [Option.bind_some]
  by_cases h : n ≤ 256
  ·rw [if_pos (by simp; omega), if_pos (show 0 ≤ m ∧ m ≤ n ∧ n ≤ 256 by omega)]
   by_cases c : m = 0
   ·rw [if_pos c, if_pos (Or.inl c)]
    simp [spec_GrowthLen.j0]
   ·rw [if_neg c]
    by_cases c2 : m = n
    ·rw [if_pos (Or.inr c2)]
     simp [spec_GrowthLen.j0, c2]
    ·rw [if_neg (by omega)]
     have e0 : (m == n) = false := by simpa using c2
     simp only [spec_GrowthLen.j0, e0]
     rw [if_neg (by simp)]
     have h1 := rests_l n.toNat k 0 n.toNat m.toNat n.toNat (by omega) (by omega) (by omega) (by omega) (by omega)
     have h3 := spec_count (k := k) (n := m.toNat) (by omega) (by omega)
     rw [show ((m.toNat : Nat) : Int) = m by omega] at h1 h3
     rw [show ((n.toNat : Nat) : Int) = n by omega, show ((0 : Nat) : Int) = 0 by rfl] at h1
     rw [h3]
     simp only [Option.bind_some]
     rw [h1]
     simp only [Option.bind_some]
     have h4 := fall_old n.toNat 0 n.toNat m.toNat (by omega) (by omega) (by omega) (by omega)
     have := fall_len n.toNat 0 n.toNat m.toNat (by omega) (by omega) (by omega)
     rw [show m.toNat - 0 = m.toNat by omega] at h4
     unfold grow
     generalize (fallF n.toNat 0 n.toNat m.toNat).1.length = A at *
     generalize (fallF n.toNat 0 n.toNat m.toNat).2.length = B at *
     unfold wrap64
     refine congrArg some ?_
     omega
  ·rw [if_neg (by simp; omega), if_neg (by omega)]
 ·rw [if_neg (by simp; omega), if_neg (show ¬ (0 ≤ m ∧ m ≤ n ∧ n ≤ 256) by omega)]
  rfl
abbrev SD := S29
abbrev LD := S24
theorem step64 {i : Nat} (h : i < 4611686018427387904) : wrap64 ((i : Int) + 1) = ((i + 1 : Nat) : Int) := by unfold wrap64; omega
theorem set_step {α β : Type} (l : List α) (f : α → β) (z : β) (i : Nat) (h : i < l.length) : ((l.take i).map f ++ List.replicate (l.length - i) z).set i (f l[i]) = (l.take (i + 1)).map f ++ List.replicate (l.length - (i + 1)) z := by
 rw [List.set_append_right _ _ (by simp; omega)]
 have e1 : i - ((l.take i).map f).length = 0 := by simp; omega
 have e2 : l.length - i = (l.length - (i + 1)) + 1 := by omega
 rw [e1, e2, List.replicate_succ, List.set_cons_zero, List.take_succ_eq_append_getElem h, List.map_append, List.append_assoc]
 rfl
theorem rdOf_nat {l : List ByteArray} {i : Nat} (h : i < l.length) : rdOf ByteArray.empty l (i : Int) = l[i] := by simp [rdOf, List.getD, List.getElem?_eq_getElem h]
def conv (d : LD) : SD := ⟨d.f0, d.f1, d.f2, d.f3⟩
theorem toDigs_l (n : Nat) : ∀ (k : Nat) (l : List LD) (i : Nat), l.length = i + n → n < k → l.length < 1099511627776 →
  laws_toDigestS.l0 k l ((l.take i).map conv ++ List.replicate (l.length - i) z29) (i : Int) = some (l.map conv) := by
 induction n with
 | zero =>
  intro k l i hl hk hm
  obtain ⟨k, rfl⟩ : ∃ m, k = m + 1 := ⟨k - 1, by omega⟩
  simp only [laws_toDigestS.l0]
  rw [if_neg (by omega), show l.length - i = 0 by omega, List.take_of_length_le (by omega)]
  simp
 | succ n ih =>
  intro k l i hl hk hm
  obtain ⟨k, rfl⟩ : ∃ m, k = m + 1 := ⟨k - 1, by omega⟩
  have hi : i < l.length := by omega
  simp only [laws_toDigestS.l0]
  unfold laws_toDigest.f
  rw [if_pos (by omega), if_pos (by omega)]
  simp only [Option.bind_some]
  have e : rd_T24 l (i : Int) = l[i] := by simp [rd_T24, List.getD, List.getElem?_eq_getElem hi]
  rw [if_pos (by simp; omega), e, show ((i : Nat) : Int).toNat = i from rfl, show (⟨l[i].f0, l[i].f1, l[i].f2, l[i].f3⟩ : SD) = conv l[i] from rfl, set_step l conv _ i hi, step64 (by omega), ih k l (i + 1) (by omega) (by omega) hm]
theorem toDigs {k : Nat} (l : List LD) (hk : l.length < k) (hm : l.length < 1099511627776) : laws_toDigestS.f k l = some (l.map conv) := by
 unfold laws_toDigestS.f
 rw [if_pos (by omega), if_pos (by simp; omega)]
 have := toDigs_l l.length k l 0 (by omega) hk hm
 simpa using this
theorem eqDigs_l (n : Nat) : ∀ (k : Nat) (l : List SD) (i : Nat), l.length = i + n → n < k → l.length < 1099511627776 → laws_eqDigestS.l0 k l l (i : Int) = some true := by
 induction n with
 | zero =>
  intro k l i hl hk hm
  obtain ⟨k, rfl⟩ : ∃ m, k = m + 1 := ⟨k - 1, by omega⟩
  simp only [laws_eqDigestS.l0]
  rw [if_neg (by omega)]
 | succ n ih =>
  intro k l i hl hk hm
  obtain ⟨k, rfl⟩ : ∃ m, k = m + 1 := ⟨k - 1, by omega⟩
  simp only [laws_eqDigestS.l0]
  unfold laws_eqDigest.f
  rw [if_pos (by omega), if_pos (by omega), if_pos (by omega)]
  simp only [if_true, Option.bind_some]
  rw [step64 (by omega), ih k l (i + 1) (by omega) (by omega) hm]
theorem eqDigs {k : Nat} (l : List SD) (hk : l.length < k) (hm : l.length < 1099511627776) : laws_eqDigestS.f k l l = some true := by
 unfold laws_eqDigestS.f
 rw [if_pos rfl]
 exact eqDigs_l l.length k l 0 (by omega) hk hm
theorem szDigs (l : List LD) (left : Int) (hl : l.length ≤ 9223372036854775807) (h0 : 0 ≤ left) (h1 : left ≤ 1048576) :
  ∃ r, laws_szDigestS.f l left = some r ∧ (r < 0 ∨ (0 ≤ r ∧ r ≤ left ∧ l.length ≤ 1048576)) := by
 unfold laws_szDigestS.f
 rw [w64 (by omega) (by omega)]
 by_cases h : left - (l.length : Int) < 0
 ·rw [if_pos h]
  exact ⟨-1, rfl, .inl (by omega)⟩
 ·rw [if_neg h]
  exact ⟨_, rfl, .inr (by omega)⟩
end
end Go.Proofs.Ytflckegggopdnaa.Q
namespace Go.Proofs.Ytflckegggopdnaa.Q
section
open Go.RowKit Go.Proofs.Ytflckegggopdnaa.B Go.Proofs.YtflckegggopdnaaW
def ahead : List NO → Int → Nat
 | [], _ => 0
 | x :: xs, a => (if x.f0 < a then 1 else 0) + ahead xs a
def Sorted (xs : List NO) : Prop := xs.Pairwise (fun x y => x.f0 < y.f0)
theorem ahead_append (xs ys : List NO) (a : Int) : ahead (xs ++ ys) a = ahead xs a + ahead ys a := by
 induction xs with
 | nil => simp [ahead]
 | cons x xs ih => simp only [List.cons_append, ahead, ih]; omega
theorem ahead_none {xs : List NO} {a : Int} (h : ∀ x ∈ xs, a ≤ x.f0) : ahead xs a = 0 := by
 induction xs with
 | nil => rfl
 | cons x xs ih =>
  have h1 := h x List.mem_cons_self
  simp only [ahead]
  rw [if_neg (by omega), ih (fun y hy => h y (List.mem_cons_of_mem _ hy))]
theorem ahead_all {xs : List NO} {a : Int} (h : ∀ x ∈ xs, x.f0 < a) : ahead xs a = xs.length := by
 induction xs with
 | nil => rfl
 | cons x xs ih =>
  simp only [ahead, List.length_cons]
  rw [if_pos (h x List.mem_cons_self), ih (fun y hy => h y (List.mem_cons_of_mem _ hy))]
  omega
theorem ahead_at {xs : List NO} (hs : Sorted xs) : ∀ (j : Nat) (hj : j < xs.length), ahead xs xs[j].f0 = j := by
 induction xs with
 | nil => intro j hj; exact absurd hj (by simp)
 | cons x xs ih =>
  intro j hj
  obtain ⟨h1, h2⟩ := List.pairwise_cons.1 hs
  cases j with
  | zero =>
   simp only [ahead, List.getElem_cons_zero]
   rw [if_neg (by omega), ahead_none (fun y hy => Int.le_of_lt (h1 y hy))]
  | succ j =>
   have hj' : j < xs.length := by simpa using hj
   simp only [ahead, List.getElem_cons_succ]
   rw [if_pos (h1 _ (List.getElem_mem hj')), ih h2 j hj']
   omega
theorem ahead_lt {xs : List NO} (hs : Sorted xs) {x : NO} (hx : x ∈ xs) : ∃ h : ahead xs x.f0 < xs.length, xs[ahead xs x.f0] = x := by
 obtain ⟨j, hj, e⟩ := List.getElem_of_mem hx
 have := ahead_at hs j hj
 rw [e] at this
 subst this
 exact ⟨hj, e⟩
theorem fall_in (f : Nat) : ∀ (lo hi m : Nat), hi - lo ≤ f → hi ≤ 256 → lo < hi →
  (∀ x ∈ (fallF f lo hi m).1, (lo : Int) ≤ x.f0 ∧ x.f0 < x.f1 ∧ x.f1 ≤ (hi : Int) ∧ x.f1 ≤ (m : Int)) ∧ (∀ x ∈ (fallF f lo hi m).2, (lo : Int) ≤ x.f0 ∧ x.f0 < x.f1 ∧ x.f1 ≤ (hi : Int) ∧ (m : Int) ≤ x.f0) := by
 induction f with
 | zero => intro lo hi m h h1 h2; omega
 | succ f ih =>
  intro lo hi m h h1 h2
  simp only [fallF]
  by_cases ha : hi ≤ m
  ·rw [if_pos ha]
   refine ⟨fun x hx => ?_, fun x hx => absurd hx (by simp)⟩
   rw [List.mem_singleton.1 hx]
   show (lo : Int) ≤ (lo : Int) ∧ (lo : Int) < (hi : Int) ∧ (hi : Int) ≤ (hi : Int) ∧ (hi : Int) ≤ (m : Int)
   omega
  ·rw [if_neg ha]
   by_cases hb : m ≤ lo
   ·rw [if_pos hb]
    refine ⟨fun x hx => absurd hx (by simp), fun x hx => ?_⟩
    rw [List.mem_singleton.1 hx]
    show (lo : Int) ≤ (lo : Int) ∧ (lo : Int) < (hi : Int) ∧ (hi : Int) ≤ (hi : Int) ∧ (m : Int) ≤ (lo : Int)
    omega
   ·rw [if_neg hb]
    have hs := spl_lt (n := hi - lo) (by omega) (by omega)
    obtain ⟨i1, i2⟩ := ih lo (lo + spl (hi - lo)) m (by omega) (by omega) (by omega)
    obtain ⟨i3, i4⟩ := ih (lo + spl (hi - lo)) hi m (by omega) (by omega) (by omega)
    refine ⟨fun x hx => ?_, fun x hx => ?_⟩
    ·rcases List.mem_append.1 hx with hx | hx
     ·have := i1 x hx; omega
     ·have := i3 x hx; omega
    ·rcases List.mem_append.1 hx with hx | hx
     ·have := i2 x hx; omega
     ·have := i4 x hx; omega
theorem fall_sorted (f : Nat) : ∀ (lo hi m : Nat), hi - lo ≤ f → hi ≤ 256 → lo < hi → Sorted (fallF f lo hi m).1 ∧ Sorted (fallF f lo hi m).2 := by
 induction f with
 | zero => intro lo hi m h h1 h2; omega
 | succ f ih =>
  intro lo hi m h h1 h2
  simp only [fallF]
  by_cases ha : hi ≤ m
  ·rw [if_pos ha]; exact ⟨List.pairwise_singleton _ _, List.Pairwise.nil⟩
  ·rw [if_neg ha]
   by_cases hb : m ≤ lo
   ·rw [if_pos hb]; exact ⟨List.Pairwise.nil, List.pairwise_singleton _ _⟩
   ·rw [if_neg hb]
    have hs := spl_lt (n := hi - lo) (by omega) (by omega)
    obtain ⟨i1, i2⟩ := fall_in f lo (lo + spl (hi - lo)) m (by omega) (by omega) (by omega)
    obtain ⟨i3, i4⟩ := fall_in f (lo + spl (hi - lo)) hi m (by omega) (by omega) (by omega)
    obtain ⟨s1, s2⟩ := ih lo (lo + spl (hi - lo)) m (by omega) (by omega) (by omega)
    obtain ⟨s3, s4⟩ := ih (lo + spl (hi - lo)) hi m (by omega) (by omega) (by omega)
    exact ⟨List.pairwise_append.2 ⟨s1, s3, fun a ha b hb => by have := i1 a ha; have := i3 b hb; omega⟩, List.pairwise_append.2 ⟨s2, s4, fun a ha b hb => by have := i2 a ha; have := i4 b hb; omega⟩⟩
def gnodes (m n : Nat) : List NO := (grow m n).1 ++ (grow m n).2
theorem gnodes_sorted {m n : Nat} (h0 : 0 < n) (h : n ≤ 256) : Sorted (gnodes m n) := by
 obtain ⟨i1, i2⟩ := fall_in n 0 n m (by omega) h h0
 obtain ⟨s1, s2⟩ := fall_sorted n 0 n m (by omega) h h0
 exact List.pairwise_append.2 ⟨s1, s2, fun a ha b hb => by have := i1 a ha; have := i2 b hb; omega⟩
theorem gnodes_len {m n : Nat} (h0 : 0 < n) (h : n ≤ 256) : (gnodes m n).length ≤ n := by
 have := fall_len n 0 n m (by omega) h h0
 unfold gnodes grow
 rw [List.length_append]
 omega
def putAll : List NO → List SD → MapD → MapD
 | x :: xs, p :: ps, M => putAll xs ps ((x, p) :: M)
 | _, _, M => M
theorem look_other (xs : List NO) : ∀ (ps : List SD) (M : MapD) (a b : Int), (∀ x ∈ xs, ¬ (x.f0 = a ∧ x.f1 = b)) → lookD (putAll xs ps M) a b = lookD M a b := by
 induction xs with
 | nil => intro ps M a b _; rfl
 | cons x xs ih =>
  intro ps M a b h
  cases ps with
  | nil => rfl
  | cons p ps =>
   simp only [putAll]
   rw [ih ps _ a b (fun y hy => h y (List.mem_cons_of_mem _ hy))]
   simp only [lookD]
   rw [if_neg (h x List.mem_cons_self)]
theorem look_at {xs : List NO} (hs : Sorted xs) : ∀ (ps : List SD) (M : MapD) (j : Nat) (hj : j < xs.length) (hp : j < ps.length), lookD (putAll xs ps M) xs[j].f0 xs[j].f1 = some ps[j] := by
 induction xs with
 | nil => intro ps M j hj; exact absurd hj (by simp)
 | cons x xs ih =>
  intro ps M j hj hp
  obtain ⟨h1, h2⟩ := List.pairwise_cons.1 hs
  cases ps with
  | nil => exact absurd hp (by simp)
  | cons p ps =>
   simp only [putAll]
   cases j with
   | zero =>
    simp only [List.getElem_cons_zero]
    rw [look_other xs ps _ _ _ (fun y hy hh => by have := h1 y hy; omega)]
    simp [lookD]
   | succ j =>
    simp only [List.getElem_cons_succ]
    exact ih h2 ps _ j (by simpa using hj) (by simpa using hp)
def given (m n : Nat) (P : List SD) (lo : Nat) : SD := P.getD (ahead (gnodes m n) (lo : Int)) ⟨0, 0, 0, 0⟩
theorem look_given {m n : Nat} (h0 : 0 < n) (h : n ≤ 256) {P : List SD} (hP : P.length = (gnodes m n).length) {a b : Nat} (hx : (⟨(a : Int), (b : Int)⟩ : NO) ∈ gnodes m n) : lookD (putAll (gnodes m n) P []) (a : Int) (b : Int) = some (given m n P a) := by
 obtain ⟨hj, e⟩ := ahead_lt (gnodes_sorted h0 h) hx
 have hj' : ahead (gnodes m n) (a : Int) < (gnodes m n).length := hj
 have e' : (gnodes m n)[ahead (gnodes m n) (a : Int)] = (⟨(a : Int), (b : Int)⟩ : NO) := e
 have := look_at (gnodes_sorted h0 h) P [] (ahead (gnodes m n) (a : Int)) hj' (by omega)
 rw [e'] at this
 rw [this]
 unfold given
 rw [List.getD, List.getElem?_eq_getElem (by omega)]
 rfl
theorem look_over {m n : Nat} (h0 : 0 < n) (h : n ≤ 256) (P : List SD) {a b : Nat} (h1 : a < m) (h2 : m < b) : lookD (putAll (gnodes m n) P []) (a : Int) (b : Int) = none := by
 obtain ⟨i1, i2⟩ := fall_in n 0 n m (by omega) h h0
 rw [look_other _ _ _ _ _ (fun x hx hh => ?_)]
 ·rfl
 ·rcases List.mem_append.1 hx with hx | hx
  ·have := i1 x hx; omega
  ·have := i2 x hx; omega
end
end Go.Proofs.Ytflckegggopdnaa.Q
namespace Go.Proofs.Ytflckegggopdnaa.Q
section
open Go.RowKit Go.Proofs.Ytflckegggopdnaa.B Go.Proofs.YtflckegggopdnaaW
abbrev D4 := Int × Int × Int × Int
theorem wrap_lit (n : Nat) (h : n < 18446744073709551616) : IntKind.u64.wrap (n : Int) = n := by rw [IntKind.wrap_u64]; omega
def be8 (v : Int) : List Int := [(v / 72057594037927936) % 256, (v / 281474976710656) % 256, (v / 1099511627776) % 256, (v / 4294967296) % 256, (v / 16777216) % 256, (v / 65536) % 256, (v / 256) % 256, v % 256]
theorem be8_length (v : Int) : (be8 v).length = 8 := rfl
theorem app64 (l : List Int) (v : Int) (h : l.length + 8 < 140737488355328) : binary_bigEndian_AppendUint64.f l v = some (l ++ be8 v) := by
 unfold binary_bigEndian_AppendUint64.f
 simp only [Option.bind_some]
 rw [if_pos (by simpa using h)]
 rfl
theorem shr_lit (v : Int) (n : Nat) (h : n ≤ 64) : shr .u64 v (n : Int) = v / 2 ^ n := by
 unfold shr
 rw [show (min ((n : Int).toNat) (IntKind.bits .u64)) = n by show min _ 64 = n; omega]
def tail8 (v : Int) : Nat → List Int
 | 0 => []
 | j + 1 => (v / 2 ^ (8 * j)) % 256 :: tail8 v j
theorem tail8_is (v : Int) : tail8 v 8 = be8 v := by
 simp [tail8, be8]
theorem spec_bytes_l (j : Nat) : ∀ (k : Nat) (v : Int) (acc : List Int), j < k → j ≤ 8 → acc.length + j ≤ 8 → spec_l1Bytes.l0 k v acc ((j : Int) - 1) = some (strOfNums (acc ++ tail8 v j)) := by
 induction j with
 | zero =>
  intro k v acc hk _ _
  obtain ⟨k, rfl⟩ : ∃ m, k = m + 1 := ⟨k - 1, by omega⟩
  simp only [spec_l1Bytes.l0, tail8]
  rw [if_neg (by omega), List.append_nil]
 | succ j ih =>
  intro k v acc hk hj hl
  obtain ⟨k, rfl⟩ : ∃ m, k = m + 1 := ⟨k - 1, by omega⟩
  simp only [spec_l1Bytes.l0, tail8]
  rw [show (((j + 1 : Nat) : Int) - 1) = (j : Int) by omega, if_pos (by omega), show wrap64 (8 * (j : Int)) = ((8 * j : Nat) : Int) by unfold wrap64; omega, wrap_lit (8 * j) (by omega), if_pos (by omega), if_pos (by omega), shr_lit v (8 * j) (by omega)]
  rw [show wrap64 ((j : Int) - 1) = (j : Int) - 1 by unfold wrap64; omega, ih k v _ (by omega) (by omega) (by simp; omega)]
  simp
theorem spec_bytes {k : Nat} (hk : 9 ≤ k) (v : Int) : spec_l1Bytes.f k v = some (strOfNums (be8 v)) := by
 unfold spec_l1Bytes.f
 have := spec_bytes_l 8 k v [] (by omega) (by omega) (by simp)
 rw [List.nil_append, tail8_is] at this
 exact this
def be32 (d : D4) : List Int := be8 d.1 ++ be8 d.2.1 ++ be8 d.2.2.1 ++ be8 d.2.2.2
theorem be32_length (d : D4) : (be32 d).length = 32 := rfl
theorem str_append (a b : List Int) : strOfNums a ++ strOfNums b = strOfNums (a ++ b) := by
 apply ByteArray.ext
 simp [strOfNums]
theorem str_size (a : List Int) : (strOfNums a).size = a.length := strOfNums_size a
theorem spec_hbytes {k : Nat} (hk : 9 ≤ k) (a b c d : Int) : spec_HashBytes.f k a b c d = some (strOfNums (be32 (a, b, c, d))) := by
 unfold spec_HashBytes.f
 rw [spec_bytes hk, spec_bytes hk, spec_bytes hk, spec_bytes hk]
 simp only [Option.bind_some, str_append, str_size]
 rw [if_pos (by simp [be8_length]), if_pos (by simp [be8_length]), if_pos (by simp [be8_length])]
 rfl
theorem impl_hbytes_l (n : Nat) : ∀ (k : Nat) (acc l : List Int) (i : Nat), l.length = i + n → n < k → acc.length + 8 * n < 1000 → l.length < 1000 → impl_HashBytes.l0 k acc l (l.length : Int) (i : Int) = some (strOfNums (acc ++ (l.drop i).flatMap be8)) := by
 induction n with
 | zero =>
  intro k acc l i hl hk _ _
  obtain ⟨k, rfl⟩ : ∃ m, k = m + 1 := ⟨k - 1, by omega⟩
  simp only [impl_HashBytes.l0]
  rw [if_neg (by omega), List.drop_of_length_le (by omega)]
  simp
 | succ n ih =>
  intro k acc l i hl hk ha hll
  obtain ⟨k, rfl⟩ : ∃ m, k = m + 1 := ⟨k - 1, by omega⟩
  simp only [impl_HashBytes.l0]
  rw [if_pos (by omega), if_pos (by omega), if_pos (by omega), app64 _ _ (by omega)]
  simp only [Option.bind_some]
  rw [show wrap64 ((i : Int) + 1) = ((i + 1 : Nat) : Int) by unfold wrap64; omega, ih k _ l (i + 1) (by omega) (by omega) (by simp [be8_length]; omega) hll]
  have hi : i < l.length := by omega
  have e : rd l (i : Int) = l[i] := by simp [rd, List.getD, List.getElem?_eq_getElem hi]
  rw [List.drop_eq_getElem_cons hi, List.flatMap_cons, e, List.append_assoc]
theorem impl_hbytes {k : Nat} (hk : 5 ≤ k) (a b c d : Int) : impl_HashBytes.f k a b c d = some (strOfNums (be32 (a, b, c, d))) := by
 unfold impl_HashBytes.f
 simp only [Option.bind_some]
 have := impl_hbytes_l 4 k [] [a, b, c, d] 0 rfl (by omega) (by simp) (by simp)
 rw [List.nil_append] at this
 rw [show (([a, b, c, d] : List Int).drop 0).flatMap be8 = be32 (a, b, c, d) by simp [be32]] at this
 exact this
def Bytes8 (l : List Int) : Prop := ∀ x ∈ l, 0 ≤ x ∧ x ≤ 255
theorem bytesOf_8 (s : ByteArray) : Bytes8 (bytesOf s) := by
 intro x hx
 simp only [bytesOf, List.mem_map] at hx
 obtain ⟨b, _, rfl⟩ := hx
 have := b.toNat_lt
 omega
theorem bytesOf_str (l : List Int) (h : Bytes8 l) : bytesOf (strOfNums l) = l := by
 simp only [bytesOf, strOfNums_data, List.map_map]
 conv => rhs; rw [← List.map_id l]
 apply List.map_congr_left
 intro x hx
 have := h x hx
 simp only [Function.comp, id, UInt8.toNat_ofNat']
 omega
theorem be8_8 (v : Int) : Bytes8 (be8 v) := by
 intro x hx
 simp only [be8, List.mem_cons, List.not_mem_nil, or_false] at hx
 rcases hx with rfl | rfl | rfl | rfl | rfl | rfl | rfl | rfl <;> omega
theorem Bytes8.append {a b : List Int} (ha : Bytes8 a) (hb : Bytes8 b) : Bytes8 (a ++ b) := fun x hx => (List.mem_append.1 hx).elim (ha x) (hb x)
theorem Bytes8.drop {a : List Int} (ha : Bytes8 a) (n : Nat) : Bytes8 (a.drop n) := fun x hx => ha x (List.mem_of_mem_drop hx)
theorem Bytes8.take {a : List Int} (ha : Bytes8 a) (n : Nat) : Bytes8 (a.take n) := fun x hx => ha x (List.mem_of_mem_take hx)
theorem rd_nat {l : List Int} {i : Nat} (h : i < l.length) : rd l (i : Int) = l[i] := by simp [rd, List.getD, List.getElem?_eq_getElem h]
theorem bt_nat {s : ByteArray} {i : Nat} (h : i < (bytesOf s).length) : bt s (i : Int) = (bytesOf s)[i] := by rw [← rd_bytesOf, rd_nat h]
def rot (n : Int) (x : Int) : Int := Go.bits .or .u64 (shl .u64 x n) (shr .u64 x (64 - n))
def xr (x y : Int) : Int := Go.bits .xor .u64 x y
def wr (x : Int) : Int := IntKind.u64.wrap x
def kc : Int := 12620524952350641003
def hbl : Nat → Int → Int → Int → Int → Int → D4
 | 0, a, b, c, d, _ => (a, b, c, d)
 | n + 1, a, b, c, d, k =>
  hbl n (rot 21 (xr b (wr (c + rot 39 (xr d (wr (wr (a + b) + wr (k + kc)))))))) (wr (c + rot 39 (xr d (wr (wr (a + b) + wr (k + kc)))))) (rot 39 (xr d (wr (wr (a + b) + wr (k + kc))))) (wr (wr (a + b) + wr (k + kc))) (wr (k + kc))
def out4 (s0 s1 s2 s3 : Int) (r : D4) : D4 := (xr r.1 s0, xr r.2.1 s1, xr r.2.2.1 s2, xr r.2.2.2 s3)
def hb (s x : D4) : D4 := out4 s.1 s.2.1 s.2.2.1 s.2.2.2 (hbl 10 (xr s.1 x.1) (xr s.2.1 x.2.1) (xr s.2.2.1 x.2.2.1) (xr s.2.2.2 x.2.2.2) 0)
theorem turn39 (x : Int) : spec_l1Turn.f x 39 = some (rot 39 x) := by
 unfold spec_l1Turn.f
 rw [show IntKind.u64.wrap 39 = 39 from wrap_lit 39 (by decide), show wrap64 (64 - 39) = 25 from by unfold wrap64; decide, show IntKind.u64.wrap 25 = 25 from wrap_lit 25 (by decide), if_pos (by decide), if_pos (by decide)]
 rfl
theorem turn21 (x : Int) : spec_l1Turn.f x 21 = some (rot 21 x) := by
 unfold spec_l1Turn.f
 rw [show IntKind.u64.wrap 21 = 21 from wrap_lit 21 (by decide), show wrap64 (64 - 21) = 43 from by unfold wrap64; decide, show IntKind.u64.wrap 43 = 43 from wrap_lit 43 (by decide), if_pos (by decide), if_pos (by decide)]
 rfl
theorem and63 (n : Nat) (h : n < 64) : Go.bits .and .u64 (n : Int) 63 = n := by
 have := (bits_nat .u64 64 (by decide) wraps_u64 n 63 (by omega) (by decide)).1
 rw [show ((63 : Nat) : Int) = 63 from rfl] at this
 rw [this, show n &&& 63 = n % 64 from Nat.and_two_pow_sub_one_eq_mod n 6]
 omega
theorem rl39 (x : Int) : bits_RotateLeft64.f x 39 = some (rot 39 x) := by
 unfold bits_RotateLeft64.f
 rw [show IntKind.u64.wrap 39 = ((39 : Nat) : Int) from wrap_lit 39 (by decide), and63 39 (by decide), show (64 : Int) - ((39 : Nat) : Int) = ((25 : Nat) : Int) from rfl, wrap_lit 25 (by decide), if_pos (by decide), if_pos (by decide)]
 rfl
theorem rl21 (x : Int) : bits_RotateLeft64.f x 21 = some (rot 21 x) := by
 unfold bits_RotateLeft64.f
 rw [show IntKind.u64.wrap 21 = ((21 : Nat) : Int) from wrap_lit 21 (by decide), and63 21 (by decide), show (64 : Int) - ((21 : Nat) : Int) = ((43 : Nat) : Int) from rfl, wrap_lit 43 (by decide), if_pos (by decide), if_pos (by decide)]
 rfl
theorem wr_sum (a b k : Int) : IntKind.u64.wrap (a + IntKind.u64.wrap (b + k)) = wr (wr (a + b) + k) := by
 unfold wr
 simp only [IntKind.wrap_u64]
 omega
theorem spec_block_l (n : Nat) : ∀ (k : Nat) (a b c d kk : Int) (i : Nat) (s0 s1 s2 s3 : Int), i + n = 10 → n < k → spec_HashBlock.l0 k a b c d kk (i : Int) s0 s1 s2 s3 = some (out4 s0 s1 s2 s3 (hbl n a b c d kk)) := by
 induction n with
 | zero =>
  intro k a b c d kk i s0 s1 s2 s3 hi hk
  obtain ⟨k, rfl⟩ : ∃ m, k = m + 1 := ⟨k - 1, by omega⟩
  simp only [spec_HashBlock.l0]
  rw [if_neg (by omega)]
  rfl
 | succ n ih =>
  intro k a b c d kk i s0 s1 s2 s3 hi hk
  obtain ⟨k, rfl⟩ : ∃ m, k = m + 1 := ⟨k - 1, by omega⟩
  simp only [spec_HashBlock.l0]
  rw [if_pos (by omega), turn39]
  simp only [Option.bind_some]
  rw [turn21]
  simp only [Option.bind_some]
  rw [show wrap64 ((i : Int) + 1) = ((i + 1 : Nat) : Int) by unfold wrap64; omega]
  rw [ih k _ _ _ _ _ (i + 1) s0 s1 s2 s3 (by omega) (by omega)]
  rfl
theorem impl_block_l (n : Nat) : ∀ (k : Nat) (a b c d kk : Int) (i : Nat) (s0 s1 s2 s3 : Int), i + n = 10 → n < k → impl_HashBlock.l0 k a b c d kk (i : Int) s0 s1 s2 s3 = some (out4 s0 s1 s2 s3 (hbl n a b c d kk)) := by
 induction n with
 | zero =>
  intro k a b c d kk i s0 s1 s2 s3 hi hk
  obtain ⟨k, rfl⟩ : ∃ m, k = m + 1 := ⟨k - 1, by omega⟩
  simp only [impl_HashBlock.l0]
  rw [if_neg (by omega)]
  rfl
 | succ n ih =>
  intro k a b c d kk i s0 s1 s2 s3 hi hk
  obtain ⟨k, rfl⟩ : ∃ m, k = m + 1 := ⟨k - 1, by omega⟩
  simp only [impl_HashBlock.l0]
  rw [if_pos (by omega), wr_sum, rl39]
  simp only [Option.bind_some]
  rw [rl21]
  simp only [Option.bind_some]
  rw [show wrap64 ((i : Int) + 1) = ((i + 1 : Nat) : Int) by unfold wrap64; omega]
  rw [ih k _ _ _ _ _ (i + 1) s0 s1 s2 s3 (by omega) (by omega)]
  rfl
theorem spec_block {k : Nat} (hk : 11 ≤ k) (a b c d x y z u : Int) : spec_HashBlock.f k a b c d x y z u = some (hb (a, b, c, d) (x, y, z, u)) := by
 unfold spec_HashBlock.f
 exact spec_block_l 10 k _ _ _ _ 0 0 a b c d (by omega) (by omega)
theorem impl_block {k : Nat} (hk : 11 ≤ k) (a b c d x y z u : Int) : impl_HashBlock.f k a b c d x y z u = some (hb (a, b, c, d) (x, y, z, u)) := by
 unfold impl_HashBlock.f
 exact impl_block_l 10 k _ _ _ _ 0 0 a b c d (by omega) (by omega)
def w8 (l : List Int) : Int := (l.take 8).foldl (fun w b => w * 256 + b) 0
theorem eight {l : List Int} (h : 8 ≤ l.length) : ∃ a b c d e f g i r, l = a :: b :: c :: d :: e :: f :: g :: i :: r := by
 match l, h with
 | a :: b :: c :: d :: e :: f :: g :: i :: r, _ => exact ⟨a, b, c, d, e, f, g, i, r, rfl⟩
theorem u64_is {l : List Int} (h : 8 ≤ l.length) (hb : Bytes8 l) : binary_bigEndian_Uint64.f l = some (w8 l) := by
 obtain ⟨a, b, c, d, e, f, g, i, r, rfl⟩ := eight h
 have h0 := hb a (by simp)
 have h1 := hb b (by simp)
 have h2 := hb c (by simp)
 have h3 := hb d (by simp)
 have h4 := hb e (by simp)
 have h5 := hb f (by simp)
 have h6 := hb g (by simp)
 have h7 := hb i (by simp)
 unfold binary_bigEndian_Uint64.f
 rw [if_pos (by omega), if_pos (by omega), if_pos (by omega), if_pos (by omega), if_pos (by omega), if_pos (by omega), if_pos (by omega), if_pos (by omega)]
 simp only [rd, w8, List.take_succ_cons, List.take_zero, List.foldl_cons, List.foldl_nil, show Int.toNat 7 = 7 from rfl, show Int.toNat 6 = 6 from rfl, show Int.toNat 5 = 5 from rfl, show Int.toNat 4 = 4 from rfl, show Int.toNat 3 = 3 from rfl, show Int.toNat 2 = 2 from rfl, show Int.toNat 1 = 1 from rfl, show Int.toNat 0 = 0 from rfl, List.getD_cons_succ, List.getD_cons_zero]
 simp (disch := omega) only [u64_wrap_id, u64_or8, u64_or16, u64_or24, u64_or32, u64_or40, u64_or48, u64_or56]
 congr 1
 omega
theorem or_step {w b : Int} (h0 : 0 ≤ w) (h1 : w < 72057594037927936) (h2 : 0 ≤ b) (h3 : b ≤ 255) : Go.bits .or .u64 (IntKind.u64.wrap (w * 256)) (IntKind.u64.wrap b) = w * 256 + b := by
 rw [u64_wrap_id _ (by omega) (by omega), u64_wrap_id _ (by omega) (by omega)]
 exact bits_join .u64 64 (by decide) wraps_u64 8 _ _ (by omega) (by omega) (by omega) (by omega) (by omega) (by omega)
def p256 : Nat → Int
 | 0 => 1
 | n + 1 => 256 * p256 n
theorem p256_le {m : Nat} (h : m ≤ 7) : p256 m ≤ 72057594037927936 := by
 rcases (by omega : m = 0 ∨ m = 1 ∨ m = 2 ∨ m = 3 ∨ m = 4 ∨ m = 5 ∨ m = 6 ∨ m = 7) with rfl | rfl | rfl | rfl | rfl | rfl | rfl | rfl <;> decide
theorem spec_word_l (n : Nat) : ∀ (k : Nat) (s : ByteArray) (i : Nat) (w : Int) (j : Nat), j = i + 8 - n → n ≤ 8 → n < k → i + 8 ≤ s.size → s.size ≤ 1000000 → 0 ≤ w → w < p256 (8 - n) →
  spec_l1Word.l0 k s (i : Int) w (j : Int) = some ((((bytesOf s).drop j).take n).foldl (fun w b => w * 256 + b) w) := by
 induction n with
 | zero =>
  intro k s i w j hj hn hk hs hm h0 h1
  obtain ⟨k, rfl⟩ : ∃ m, k = m + 1 := ⟨k - 1, by omega⟩
  simp only [spec_l1Word.l0]
  rw [if_neg (by unfold wrap64; omega)]
  rfl
 | succ n ih =>
  intro k s i w j hj hn hk hs hm h0 h1
  obtain ⟨k, rfl⟩ : ∃ m, k = m + 1 := ⟨k - 1, by omega⟩
  have hl : j < (bytesOf s).length := by rw [bytesOf_length]; omega
  have hb := bytesOf_8 s _ (List.getElem_mem hl)
  have hw : w < 72057594037927936 := Int.lt_of_lt_of_le h1 (p256_le (by omega))
  simp only [spec_l1Word.l0]
  rw [if_pos (by unfold wrap64; omega), if_pos (by omega), if_pos (by omega), bt_nat hl, or_step h0 hw hb.1 hb.2, show wrap64 ((j : Int) + 1) = ((j + 1 : Nat) : Int) by unfold wrap64; omega]
  rw [ih k s i _ (j + 1) (by omega) (by omega) (by omega) hs hm (by omega) (by
   rw [show 8 - n = (8 - (n + 1)) + 1 by omega]
   simp only [p256]
   omega)]
  rw [List.drop_eq_getElem_cons hl, List.take_succ_cons, List.foldl_cons]
theorem spec_word {k : Nat} (hk : 9 ≤ k) (s : ByteArray) (i : Nat) (h : i + 8 ≤ s.size) (hm : s.size ≤ 1000000) : spec_l1Word.f k s (i : Int) = some (w8 ((bytesOf s).drop i)) := by
 unfold spec_l1Word.f
 exact spec_word_l 8 k s i 0 i (by omega) (by omega) (by omega) h hm (by omega) (by decide)
def bareL (l : List Int) : List Int := l.filter fun x => !(x == 255)
theorem bareL_ne {x : Int} (l : List Int) (h : ¬ x = 255) : bareL (x :: l) = x :: bareL l := by simp [bareL, h]
theorem bareL_eq {x : Int} (l : List Int) (h : x = 255) : bareL (x :: l) = bareL l := by simp [bareL, h]
def zn (m : Nat) : Nat := (32 - (m + 9) % 32) % 32
def padL (l : List Int) : List Int := l ++ [128] ++ List.replicate (zn l.length) 0 ++ be8 (l.length : Int)
theorem padL_length (l : List Int) : (padL l).length = l.length + 9 + zn l.length := by simp [padL, be8_length]; omega
theorem padL_32 (l : List Int) : (padL l).length % 32 = 0 := by rw [padL_length]; unfold zn; omega
theorem bareL_8 {l : List Int} (h : Bytes8 l) : Bytes8 (bareL l) := fun x hx => h x (List.mem_filter.1 hx).1
theorem bareL_le (l : List Int) : (bareL l).length ≤ l.length := List.length_filter_le _ _
theorem padL_8 {l : List Int} (h : Bytes8 l) : Bytes8 (padL l) := by
 unfold padL
 refine Bytes8.append (Bytes8.append (Bytes8.append h ?_) ?_) (be8_8 _)
 ·intro x hx; simp at hx; omega
 ·intro x hx; have := (List.mem_replicate.1 hx).2; omega
def hfold : Nat → List Int → D4 → D4
 | 0, _, s => s
 | n + 1, l, s => hfold n (l.drop 32) (hb s (w8 l, w8 (l.drop 8), w8 (l.drop 16), w8 (l.drop 24)))
def iv : D4 := (13971524466476933880, 3286059910148148165, 8210247237615983910, 11412903256176698835)
def hashL (l : List Int) : D4 := hfold ((padL (bareL l)).length / 32) (padL (bareL l)) iv
def hashOf (s : ByteArray) : D4 := if s.size > 20000 then (0, 0, 0, 0) else hashL (bytesOf s)
theorem spec_bare_l (n : Nat) : ∀ (k : Nat) (s : ByteArray) (acc : List Int) (i : Nat), s.size = i + n → n < k → s.size ≤ 1000000 → acc.length ≤ i → spec_l1Bare.l0 k s acc (i : Int) = some (strOfNums (acc ++ bareL ((bytesOf s).drop i))) := by
 induction n with
 | zero =>
  intro k s acc i hs hk hm ha
  obtain ⟨k, rfl⟩ : ∃ m, k = m + 1 := ⟨k - 1, by omega⟩
  simp only [spec_l1Bare.l0]
  rw [if_neg (by omega), List.drop_of_length_le (by rw [bytesOf_length]; omega)]
  simp [bareL]
 | succ n ih =>
  intro k s acc i hs hk hm ha
  obtain ⟨k, rfl⟩ : ∃ m, k = m + 1 := ⟨k - 1, by omega⟩
  have hl : i < (bytesOf s).length := by rw [bytesOf_length]; omega
  simp only [spec_l1Bare.l0]
  rw [if_pos (by omega), if_pos (by omega), bt_nat hl, show wrap64 ((i : Int) + 1) = ((i + 1 : Nat) : Int) by unfold wrap64; omega, List.drop_eq_getElem_cons hl]
  by_cases h : (bytesOf s)[i] = 255
  ·rw [if_pos h, ih k s acc (i + 1) (by omega) (by omega) hm (by omega), bareL_eq _ h]
  ·rw [if_neg h, if_pos (by omega), ih k s _ (i + 1) (by omega) (by omega) hm (by simp; omega), bareL_ne _ h, List.append_assoc, List.singleton_append]
theorem spec_bare {k : Nat} (s : ByteArray) (hs : s.size ≤ 1000000) (hk : s.size < k) : spec_l1Bare.f k s = some (strOfNums (bareL (bytesOf s))) := by
 unfold spec_l1Bare.f
 have := spec_bare_l s.size k s [] 0 (by omega) hk hs (by simp)
 simpa using this
theorem spec_zeros_l (n : Nat) : ∀ (k m : Nat) (acc : List Int) (i : Nat), m = i + n → n < k → m ≤ 1000 → acc.length = i → spec_l1Zeros.l0 k (m : Int) acc (i : Int) = some (strOfNums (acc ++ List.replicate n 0)) := by
 induction n with
 | zero =>
  intro k m acc i hs hk hm ha
  obtain ⟨k, rfl⟩ : ∃ m, k = m + 1 := ⟨k - 1, by omega⟩
  simp only [spec_l1Zeros.l0]
  rw [if_neg (by omega)]
  simp
 | succ n ih =>
  intro k m acc i hs hk hm ha
  obtain ⟨k, rfl⟩ : ∃ m, k = m + 1 := ⟨k - 1, by omega⟩
  simp only [spec_l1Zeros.l0]
  rw [if_pos (by omega), if_pos (by omega), show wrap64 ((i : Int) + 1) = ((i + 1 : Nat) : Int) by unfold wrap64; omega, ih k m _ (i + 1) (by omega) (by omega) hm (by simp; omega)]
  simp [List.replicate_succ]
theorem spec_zeros {k n : Nat} (hn : n ≤ 1000) (hk : n < k) : spec_l1Zeros.f k (n : Int) = some (strOfNums (List.replicate n 0)) := by
 unfold spec_l1Zeros.f
 have := spec_zeros_l n k n [] 0 (by omega) hk hn rfl
 simpa using this
theorem spec_fold_l (n : Nat) : ∀ (k : Nat) (l : List Int) (i : Nat) (s : D4), Bytes8 l → l.length = i + 32 * n → n + 11 < k → l.length ≤ 1000000 →
  spec_HashOf.l0 k (strOfNums l) (i : Int) s.1 s.2.1 s.2.2.1 s.2.2.2 = some (hfold n (l.drop i) s) := by
 induction n with
 | zero =>
  intro k l i s hb hl hk hm
  obtain ⟨k, rfl⟩ : ∃ m, k = m + 1 := ⟨k - 1, by omega⟩
  simp only [spec_HashOf.l0]
  rw [if_neg (by rw [str_size]; omega)]
  rfl
 | succ n ih =>
  intro k l i s hb8 hl hk hm
  obtain ⟨k, rfl⟩ : ∃ m, k = m + 1 := ⟨k - 1, by omega⟩
  simp only [spec_HashOf.l0]
  rw [if_pos (by rw [str_size]; omega), spec_word (by omega) _ i (by rw [str_size]; omega) (by rw [str_size]; omega)]
  simp only [Option.bind_some]
  rw [show wrap64 ((i : Int) + 8) = ((i + 8 : Nat) : Int) by unfold wrap64; omega, spec_word (by omega) _ (i + 8) (by rw [str_size]; omega) (by rw [str_size]; omega)]
  simp only [Option.bind_some]
  rw [show wrap64 ((i : Int) + 16) = ((i + 16 : Nat) : Int) by unfold wrap64; omega, spec_word (by omega) _ (i + 16) (by rw [str_size]; omega) (by rw [str_size]; omega)]
  simp only [Option.bind_some]
  rw [show wrap64 ((i : Int) + 24) = ((i + 24 : Nat) : Int) by unfold wrap64; omega, spec_word (by omega) _ (i + 24) (by rw [str_size]; omega) (by rw [str_size]; omega)]
  simp only [Option.bind_some]
  rw [spec_block (by omega)]
  simp only [Option.bind_some]
  rw [show wrap64 ((i : Int) + 32) = ((i + 32 : Nat) : Int) by unfold wrap64; omega, ih k l (i + 32) _ hb8 (by omega) (by omega) hm, bytesOf_str l hb8]
  simp only [hfold, List.drop_drop]
theorem spec_hash {k : Nat} (hk : 30000 ≤ k) (s : ByteArray) : spec_HashOf.f k s = some (hashOf s) := by
 unfold spec_HashOf.f hashOf
 by_cases h : s.size > 20000
 ·rw [if_pos (by omega), if_pos h]
 ·rw [if_neg (by omega), if_neg h, spec_bare s (by omega) (by omega)]
  have hb := bareL_8 (bytesOf_8 s)
  have hle := bareL_le (bytesOf s)
  rw [bytesOf_length] at hle
  have hp : padL (bareL (bytesOf s)) = bareL (bytesOf s) ++ [128] ++ List.replicate (zn (bareL (bytesOf s)).length) 0 ++ be8 ((bareL (bytesOf s)).length : Int) := rfl
  have h32 := padL_32 (bareL (bytesOf s))
  have hpl := padL_length (bareL (bytesOf s))
  have hz : zn (bareL (bytesOf s)).length < 32 := by unfold zn; omega
  have hp8 := padL_8 hb
  unfold hashL
  generalize bareL (bytesOf s) = l at *
  simp only [Option.bind_some, str_size]
  rw [if_pos (by simp; omega), show Int.tmod (wrap64 (32 - (Int.tmod (wrap64 ((l.length : Int) + 9)) 32))) 32 = ((zn l.length : Nat) : Int) by
   rw [w64 (x := (l.length : Int) + 9) (by omega) (by omega), show Int.tmod ((l.length : Int) + 9) 32 = (((l.length + 9) % 32 : Nat) : Int) by rw [Int.tmod_eq_emod_of_nonneg (by omega)]; omega, w64 (by omega) (by omega), Int.tmod_eq_emod_of_nonneg (by omega)]
   unfold zn
   omega, spec_zeros (by omega) (by omega)]
  simp only [Option.bind_some, str_append, str_size]
  rw [if_pos (by simp; omega), show IntKind.u64.wrap ((l.length : Int)) = (l.length : Int) from wrap_lit _ (by omega), spec_bytes (by omega)]
  simp only [Option.bind_some, str_append, str_size]
  rw [if_pos (by simp [be8_length]; omega), ← hp]
  have := spec_fold_l ((padL l).length / 32) k (padL l) 0 iv hp8 (by omega) (by omega) (by omega)
  exact this
theorem digest_is {l : List Int} (h : l.length = 32) (hb : Bytes8 l) : impl_digestOf.f l = some (w8 l, w8 (l.drop 8), w8 (l.drop 16), w8 (l.drop 24)) := by
 unfold impl_digestOf.f
 rw [u64_is (by omega) hb]
 simp only [Option.bind_some]
 rw [if_pos (by omega), u64_is (by rw [List.length_drop]; omega) (hb.drop _)]
 simp only [Option.bind_some]
 rw [if_pos (by omega), u64_is (by rw [List.length_drop]; omega) (hb.drop _)]
 simp only [Option.bind_some]
 rw [if_pos (by omega), u64_is (by rw [List.length_drop]; omega) (hb.drop _)]
 simp only [Option.bind_some]
theorem w8_take (l : List Int) (m : Nat) (h : 8 ≤ m) : w8 (l.take m) = w8 l := by
 unfold w8
 rw [List.take_take, Nat.min_eq_left h]
theorem impl_fold_l (n : Nat) : ∀ (k : Nat) (l : List Int) (i : Nat) (s : D4), Bytes8 l → l.length = i + 32 * n → n + 11 < k → l.length ≤ 1000000 →
  impl_HashOf.l2 k l (i : Int) s.1 s.2.1 s.2.2.1 s.2.2.2 = some (hfold n (l.drop i) s) := by
 induction n with
 | zero =>
  intro k l i s hb hl hk hm
  obtain ⟨k, rfl⟩ : ∃ m, k = m + 1 := ⟨k - 1, by omega⟩
  simp only [impl_HashOf.l2]
  rw [if_neg (by omega)]
  rfl
 | succ n ih =>
  intro k l i s hb8 hl hk hm
  obtain ⟨k, rfl⟩ : ∃ m, k = m + 1 := ⟨k - 1, by omega⟩
  simp only [impl_HashOf.l2]
  rw [show wrap64 ((i : Int) + 32) = ((i + 32 : Nat) : Int) by unfold wrap64; omega, if_pos (by omega), if_pos (by omega), if_pos (by omega), if_pos (by omega)]
  rw [show (((i + 32 : Nat) : Int)).toNat = i + 32 from rfl, show ((i : Nat) : Int).toNat = i from rfl]
  have e : (l.take (i + 32)).drop i = (l.drop i).take 32 := by rw [List.drop_take]; congr 1; omega
  rw [e, digest_is (by rw [List.length_take, List.length_drop]; omega) ((hb8.drop _).take _)]
  simp only [Option.bind_some]
  rw [impl_block (by omega)]
  simp only [Option.bind_some]
  rw [ih k l (i + 32) _ hb8 (by omega) (by omega) hm]
  simp only [hfold, List.drop_drop, List.drop_take, w8_take _ 32 (by omega), w8_take _ (32 - 8) (by omega), w8_take _ (32 - 16) (by omega), w8_take _ (32 - 24) (by omega)]
theorem impl_pad_l (z : Nat) : ∀ (k : Nat) (x : List Int) (v : Int), Bytes8 x → (x.length + z) % 32 = 24 → z < 32 → 2000 + z < k → x.length + z ≤ 30000 →
  impl_HashOf.l1 k x v = some (hfold ((x.length + z + 8) / 32) (x ++ List.replicate z 0 ++ be8 v) iv) := by
 induction z with
 | zero =>
  intro k x v hb hz _ hk hm
  obtain ⟨k, rfl⟩ : ∃ m, k = m + 1 := ⟨k - 1, by omega⟩
  simp only [impl_HashOf.l1]
  rw [if_pos (by omega), app64 _ _ (by omega)]
  simp only [Option.bind_some]
  have := impl_fold_l ((x.length + 8) / 32) k (x ++ be8 v) 0 iv (hb.append (be8_8 v)) (by simp [be8_length]; omega) (by omega) (by simp [be8_length]; omega)
  simp only [List.drop_zero] at this
  simp only [List.replicate_zero, List.append_nil, Nat.add_zero]
  exact this
 | succ z ih =>
  intro k x v hb hz hz2 hk hm
  obtain ⟨k, rfl⟩ : ∃ m, k = m + 1 := ⟨k - 1, by omega⟩
  simp only [impl_HashOf.l1]
  rw [if_neg (by omega), if_pos (by omega)]
  rw [ih k (x ++ [0]) v (hb.append (by intro y hy; simp at hy; omega)) (by simp; omega) (by omega) (by omega) (by simp; omega)]
  simp only [List.length_append, List.length_singleton, List.append_assoc, List.replicate_succ, List.singleton_append]
  rw [show x.length + 1 + z + 8 = x.length + (z + 1) + 8 by omega]
theorem impl_bare_l (n : Nat) : ∀ (k : Nat) (s : ByteArray) (acc : List Int) (i : Nat), s.size = i + n → n + 2100 < k → s.size ≤ 20000 → acc.length ≤ i → Bytes8 acc →
  impl_HashOf.l0 k s acc (i : Int) = some (hfold ((padL (acc ++ bareL ((bytesOf s).drop i))).length / 32) (padL (acc ++ bareL ((bytesOf s).drop i))) iv) := by
 induction n with
 | zero =>
  intro k s acc i hs hk hm ha h8
  obtain ⟨k, rfl⟩ : ∃ m, k = m + 1 := ⟨k - 1, by omega⟩
  simp only [impl_HashOf.l0]
  rw [if_neg (by omega), if_pos (by omega), List.drop_of_length_le (by rw [bytesOf_length]; omega)]
  simp only [bareL, List.filter_nil, List.append_nil]
  rw [show IntKind.u64.wrap ((acc.length : Int)) = (acc.length : Int) from wrap_lit _ (by omega)]
  rw [impl_pad_l (zn acc.length) k (acc ++ [128]) _ (h8.append (by intro y hy; simp at hy; omega)) (by simp; unfold zn; omega) (by unfold zn; omega) (by unfold zn; omega) (by simp; unfold zn; omega)]
  rw [padL_length]
  unfold padL
  simp only [List.length_append, List.length_singleton]
  rw [show acc.length + 1 + zn acc.length + 8 = acc.length + 9 + zn acc.length by omega]
 | succ n ih =>
  intro k s acc i hs hk hm ha h8
  obtain ⟨k, rfl⟩ : ∃ m, k = m + 1 := ⟨k - 1, by omega⟩
  have hl : i < (bytesOf s).length := by rw [bytesOf_length]; omega
  simp only [impl_HashOf.l0]
  rw [if_pos (by omega), if_pos (by omega), bt_nat hl, show wrap64 ((i : Int) + 1) = ((i + 1 : Nat) : Int) by unfold wrap64; omega, List.drop_eq_getElem_cons hl]
  by_cases h : (bytesOf s)[i] = 255
  ·rw [if_pos h, ih k s acc (i + 1) (by omega) (by omega) hm (by omega) h8, bareL_eq _ h]
  ·rw [if_neg h, if_pos (by omega), ih k s _ (i + 1) (by omega) (by omega) hm (by simp; omega) (h8.append (by intro y hy; simp at hy; subst hy; exact bytesOf_8 s _ (List.getElem_mem hl))), bareL_ne _ h, List.append_assoc, List.singleton_append]
theorem impl_hash {k : Nat} (hk : 30000 ≤ k) (s : ByteArray) : impl_HashOf.f k s = some (hashOf s) := by
 unfold impl_HashOf.f hashOf
 by_cases h : s.size > 20000
 ·rw [if_pos (by omega), if_pos h]
 ·rw [if_neg (by omega), if_neg h]
  have := impl_bare_l s.size k s [] 0 (by omega) (by omega) (by omega) (by simp) (by intro x hx; simp at hx)
  simpa [hashL] using this
def leafText (s : ByteArray) : ByteArray := (⟨#[0]⟩ : ByteArray) ++ s
def pairText (x y : D4) : ByteArray := strOfNums (1 :: (be32 x ++ be32 y))
def hashLeaf (s : ByteArray) : D4 := hashOf (leafText s)
def hashPair (x y : D4) : D4 := hashOf (pairText x y)
theorem spec_leafText {s : ByteArray} (h : s.size ≤ 4611686018427387904) : spec_l1LeafText.f s = some (leafText s) := by
 unfold spec_l1LeafText.f
 simp only [Option.bind_some, str_size]
 rw [if_pos (by simp; omega)]
 rfl
theorem impl_leafText {s : ByteArray} (h : s.size ≤ 4611686018427387904) : impl_leafText.f s = some (leafText s) := by
 unfold impl_leafText.f
 rw [if_pos (by omega)]
 rfl
theorem spec_leaf {k : Nat} (hk : 30000 ≤ k) {s : ByteArray} (h : s.size ≤ 4611686018427387904) : spec_HashLeaf.f k s = some (hashLeaf s) := by
 unfold spec_HashLeaf.f
 rw [spec_leafText h]
 simp only [Option.bind_some]
 rw [spec_hash hk]
 rfl
theorem impl_leaf {k : Nat} (hk : 30000 ≤ k) {s : ByteArray} (h : s.size ≤ 4611686018427387904) : impl_HashLeaf.f k s = some (hashLeaf s) := by
 unfold impl_HashLeaf.f
 rw [impl_leafText h]
 simp only [Option.bind_some]
 rw [impl_hash hk]
 rfl
theorem spec_pairText {k : Nat} (hk : 9 ≤ k) (a b c d x y z u : Int) : spec_l1PairText.f k a b c d x y z u = some (pairText (a, b, c, d) (x, y, z, u)) := by
 unfold spec_l1PairText.f
 rw [spec_hbytes hk, spec_hbytes hk]
 simp only [Option.bind_some, str_size, str_append]
 rw [if_pos (by simp [be32_length]), if_pos (by simp [be32_length])]
 rfl
theorem impl_pairText {k : Nat} (hk : 9 ≤ k) (a b c d x y z u : Int) : impl_pairText.f k a b c d x y z u = some (pairText (a, b, c, d) (x, y, z, u)) := by
 unfold impl_pairText.f
 rw [impl_hbytes (by omega), impl_hbytes (by omega)]
 simp only [Option.bind_some, show (⟨#[1]⟩ : ByteArray) = strOfNums [1] from rfl, str_size, str_append]
 rw [if_pos (by simp [be32_length]), if_pos (by simp [be32_length])]
 rfl
theorem spec_pair {k : Nat} (hk : 30000 ≤ k) (a b c d x y z u : Int) : spec_HashPair.f k a b c d x y z u = some (hashPair (a, b, c, d) (x, y, z, u)) := by
 unfold spec_HashPair.f
 rw [spec_pairText (by omega)]
 simp only [Option.bind_some]
 rw [spec_hash hk]
 rfl
theorem impl_pair {k : Nat} (hk : 30000 ≤ k) (a b c d x y z u : Int) : impl_HashPair.f k a b c d x y z u = some (hashPair (a, b, c, d) (x, y, z, u)) := by
 unfold impl_HashPair.f
 rw [impl_pairText (by omega)]
 simp only [Option.bind_some]
 rw [impl_hash hk]
 rfl
end
end Go.Proofs.Ytflckegggopdnaa.Q
namespace Go.Proofs.Ytflckegggopdnaa.Q
section
open Go.RowKit Go.Proofs.Ytflckegggopdnaa.B Go.Proofs.YtflckegggopdnaaW
def toSD (d : D4) : SD := ⟨d.1, d.2.1, d.2.2.1, d.2.2.2⟩
theorem copiedD {l : List SD} (h : l.length ≤ 1000000) : impl_Digest.f l = some l := by
 unfold impl_Digest.f
 rw [if_pos (by omega)]
end
end Go.Proofs.Ytflckegggopdnaa.Q
namespace Go.Proofs.Ytflckegggopdnaa.Q
section
open Go.RowKit Go.Proofs.Ytflckegggopdnaa.B Go.Proofs.YtflckegggopdnaaW
theorem half_l (g : Nat) : ∀ (k n j : Nat), g < k → 2 ^ j ≤ n → n < 2 ^ (j + g) → n ≤ 256 → ∃ e, spec_l2Half.l0 k (n : Int) ((2 ^ j : Nat) : Int) = some ((2 ^ e : Nat) : Int) ∧ 2 ^ e ≤ n ∧ n < 2 ^ (e + 1) := by
 induction g with
 | zero => intro k n j _ h0 h1; rw [Nat.add_zero] at h1; omega
 | succ g ih =>
  intro k n j hk h0 h1 h2
  obtain ⟨k, rfl⟩ : ∃ m, k = m + 1 := ⟨k - 1, by omega⟩
  simp only [spec_l2Half.l0]
  have e1 : wrap64 (2 * ((2 ^ j : Nat) : Int)) = ((2 ^ (j + 1) : Nat) : Int) := by rw [Nat.pow_succ]; unfold wrap64; omega
  rw [e1]
  by_cases c : 2 ^ (j + 1) ≤ n
  ·rw [if_pos (by omega)]
   exact ih k n (j + 1) (by omega) c (by rw [show j + 1 + g = j + (g + 1) by omega]; exact h1) h2
  ·rw [if_neg (by omega)]
   exact ⟨j, rfl, h0, by omega⟩
theorem spec_half {k n : Nat} (hk : 10 < k) (h0 : 1 ≤ n) (h1 : n ≤ 256) : ∃ e, spec_l2Half.f k (n : Int) = some ((2 ^ e : Nat) : Int) ∧ 2 ^ e ≤ n ∧ n < 2 ^ (e + 1) ∧ e ≤ 8 := by
 unfold spec_l2Half.f
 obtain ⟨e, h, h2, h3⟩ := half_l 9 k n 0 (by omega) (by simpa using h0) (by rw [Nat.zero_add, show (2 : Nat) ^ 9 = 512 by rfl]; omega) h1
 refine ⟨e, by simpa using h, h2, h3, ?_⟩
 rcases Nat.lt_or_ge 8 e with c | c
 ·have : (2 : Nat) ^ 9 ≤ 2 ^ e := Nat.pow_le_pow_right (by omega) (by omega)
  rw [show (2 : Nat) ^ 9 = 512 by rfl] at this
  omega
 ·exact c
end
end Go.Proofs.Ytflckegggopdnaa.Q
namespace Go.Proofs.Ytflckegggopdnaa.Q
section
open Go.RowKit Go.Proofs.Ytflckegggopdnaa.B Go.Proofs.YtflckegggopdnaaW
theorem bsk {α β : Type} {x : Option α} {v : α} {F : α → Option β} {r : Option β} (h : x = some v) (k : F v = r) : x.bind F = r := by rw [h]; exact k
def digF : Nat → Nat → Nat → Nat → (Nat → SD) → D4
 | 0, _, _, _, _ => (0, 0, 0, 0)
 | f + 1, lo, hi, m, g => if hi ≤ m ∨ m ≤ lo then ((g lo).f0, (g lo).f1, (g lo).f2, (g lo).f3) else hashPair (digF f lo (lo + spl (hi - lo)) m g) (digF f (lo + spl (hi - lo)) hi m g)
def hlf (n : Nat) : Nat := 2 ^ n.log2
theorem hlf_is {n e : Nat} (h0 : 2 ^ e ≤ n) (h1 : n < 2 ^ (e + 1)) : hlf n = 2 ^ e := by
 unfold hlf
 have : n ≠ 0 := by have : 0 < 2 ^ e := Nat.pow_pos (by omega); omega
 rw [(Nat.log2_eq_iff this).2 ⟨h0, h1⟩]
theorem hlf_le {n : Nat} (h : 1 ≤ n) : 1 ≤ hlf n ∧ hlf n ≤ n := by
 unfold hlf
 exact ⟨Nat.pow_pos (by omega), Nat.log2_self_le (by omega)⟩
theorem spec_hlf {k n : Nat} (hk : 10 < k) (h0 : 1 ≤ n) (h1 : n ≤ 256) : spec_l2Half.f k (n : Int) = some ((hlf n : Nat) : Int) := by
 obtain ⟨e, h, h2, h3, _⟩ := spec_half hk h0 h1
 rw [h, hlf_is h2 h3]
def oldF : Nat → Nat → Nat → List NO
 | 0, _, _ => []
 | g + 1, lo, m => if lo < m then ⟨(lo : Int), ((lo + hlf (m - lo) : Nat) : Int)⟩ :: oldF g (lo + hlf (m - lo)) m else []
theorem oldF_ge (g : Nat) : ∀ (lo m : Nat), ∀ x ∈ oldF g lo m, (lo : Int) ≤ x.f0 := by
 induction g with
 | zero => intro lo m x hx; exact absurd hx (by simp [oldF])
 | succ g ih =>
  intro lo m x hx
  simp only [oldF] at hx
  by_cases c : lo < m
  ·rw [if_pos c] at hx
   rcases List.mem_cons.1 hx with rfl | hx
   ·exact Int.le_refl _
   ·have := ih _ _ x hx; omega
  ·rw [if_neg c] at hx; exact absurd hx (by simp)
theorem oldF_done (g : Nat) (m : Nat) : oldF g m m = [] := by
 cases g with
 | zero => rfl
 | succ g => simp only [oldF]; rw [if_neg (by omega)]
theorem fall_oldF (f : Nat) : ∀ (lo hi m g : Nat), hi - lo ≤ f → hi ≤ 256 → lo < m → m < hi → m - lo ≤ g → (fallF f lo hi m).1 = oldF g lo m := by
 induction f with
 | zero => intro lo hi m g h h1 h2 h3; omega
 | succ f ih =>
  intro lo hi m g h h1 h2 h3 hg
  obtain ⟨g, rfl⟩ : ∃ q, g = q + 1 := ⟨g - 1, by omega⟩
  simp only [fallF]
  rw [if_neg (by omega), if_neg (by omega)]
  obtain ⟨e, he, h4, h5, h6⟩ := spl_is (n := hi - lo) (by omega) (by omega)
  have hs := spl_lt (n := hi - lo) (by omega) (by omega)
  have hzero : ∀ lo' hi' : Nat, hi' - lo' ≤ f → lo' < hi' → m ≤ lo' → (fallF f lo' hi' m).1 = [] := fun lo' hi' a b c => by
   obtain ⟨f, rfl⟩ : ∃ q, f = q + 1 := ⟨f - 1, by omega⟩
   simp only [fallF]
   rw [if_neg (by omega), if_pos c]
  rcases Nat.lt_or_ge m (lo + spl (hi - lo)) with c | c
  ·rw [ih _ _ _ (g + 1) (by omega) (by omega) h2 c hg, hzero _ _ (by omega) (by omega) (by omega), List.append_nil]
  ·have hone : (fallF f lo (lo + spl (hi - lo)) m).1 = [⟨(lo : Int), ((lo + spl (hi - lo) : Nat) : Int)⟩] := by
    obtain ⟨f, rfl⟩ : ∃ q, f = q + 1 := ⟨f - 1, by omega⟩
    simp only [fallF]
    rw [if_pos c]
   have hh : hlf (m - lo) = spl (hi - lo) := by
    rw [he]
    exact hlf_is (by omega) (by omega)
   rw [hone]
   simp only [oldF]
   rw [if_pos h2, hh]
   rcases Nat.eq_or_lt_of_le c with c | c
   ·rw [hzero _ _ (by omega) (by omega) (by omega), ← c, oldF_done]
    rfl
   ·rw [ih _ _ _ g (by omega) h1 c h3 (by omega)]
    rfl
theorem peaksAhead_l (g : Nat) : ∀ (k lo m at_ c : Nat), m - lo ≤ g → m ≤ 256 → 20 + g < k → c + g ≤ 1000000 → spec_l3PeaksAhead.l0 k (m : Int) (at_ : Int) (c : Int) (lo : Int) = some ((c + ahead (oldF g lo m) (at_ : Int) : Nat) : Int) := by
 induction g with
 | zero =>
  intro k lo m at_ c h h1 hk hc
  obtain ⟨k, rfl⟩ : ∃ q, k = q + 1 := ⟨k - 1, by omega⟩
  simp only [spec_l3PeaksAhead.l0]
  rw [if_neg (by omega)]
  rfl
 | succ g ih =>
  intro k lo m at_ c h h1 hk hc
  obtain ⟨k, rfl⟩ : ∃ q, k = q + 1 := ⟨k - 1, by omega⟩
  simp only [spec_l3PeaksAhead.l0]
  by_cases c1 : lo < m
  ·rw [if_pos (by omega)]
   by_cases c2 : lo < at_
   ·have hh := hlf_le (n := m - lo) (by omega)
    rw [if_pos (by omega), show wrap64 ((m : Int) - (lo : Int)) = ((m - lo : Nat) : Int) by unfold wrap64; omega]
    refine bsk (spec_hlf (by omega) (by omega) (by omega)) ?_
    rw [show wrap64 ((c : Int) + 1) = ((c + 1 : Nat) : Int) by unfold wrap64; omega, show wrap64 ((lo : Int) + ((hlf (m - lo) : Nat) : Int)) = ((lo + hlf (m - lo) : Nat) : Int) by unfold wrap64; omega]
    rw [ih k _ m at_ (c + 1) (by omega) h1 (by omega) (by omega)]
    simp only [oldF]
    rw [if_pos c1]
    simp only [ahead]
    rw [if_pos (by omega)]
    refine congrArg some ?_
    omega
   ·rw [if_neg (by omega), ahead_none (fun x hx => by have := oldF_ge (g + 1) lo m x hx; omega)]
    rfl
  ·rw [if_neg (by omega)]
   simp only [oldF]
   rw [if_neg c1]
   rfl
theorem rests_at (f : Nat) : ∀ (k lo hi m at_ : Nat), hi - lo ≤ f → lo < hi → hi ≤ 256 → 2 * f + 10 ≤ k → spec_l3Rests.f k (lo : Int) (hi : Int) (m : Int) (at_ : Int) = some ((ahead (fallF f lo hi m).2 (at_ : Int) : Nat) : Int) := by
 induction f with
 | zero => intro k lo hi m at_ h h0; omega
 | succ f ih =>
  intro k lo hi m at_ h h0 h1 hk
  obtain ⟨k, rfl⟩ : ∃ m, k = m + 2 := ⟨k - 2, by omega⟩
  simp only [spec_l3Rests.f, spec_l3Rests.j0]
  by_cases c1 : hi ≤ m
  ·rw [if_pos (by omega)]
   simp only [fallF]
   rw [if_pos c1]
   simp [ahead]
  ·rw [if_neg (by omega)]
   by_cases c0 : lo ≥ at_
   ·rw [if_pos (by simp; omega), ahead_none (fun x hx => by have := (fall_in (f + 1) lo hi m h h1 h0).2 x hx; omega)]
    rfl
   ·rw [if_neg (by simp; omega)]
    simp only [fallF]
    rw [if_neg c1]
    by_cases c2 : m ≤ lo
    ·rw [if_pos c2, if_pos (by omega)]
     simp only [ahead]
     rw [if_pos (by omega)]
     rfl
    ·rw [if_neg c2, if_neg (by omega)]
     have hs := spl_lt (n := hi - lo) (by omega) (by omega)
     have l1 := fall_len f lo (lo + spl (hi - lo)) m (by omega) (by omega) (by omega)
     have l2 := fall_len f (lo + spl (hi - lo)) hi m (by omega) (by omega) (by omega)
     have a1 := ahead_le (fallF f lo (lo + spl (hi - lo)) m).2 (at_ : Int)
     have a2 := ahead_le (fallF f (lo + spl (hi - lo)) hi m).2 (at_ : Int)
     rw [show wrap64 ((hi : Int) - (lo : Int)) = ((hi - lo : Nat) : Int) by unfold wrap64; omega]
     refine bsk (spec_split (by omega) (by omega) (by omega)) ?_
     rw [show wrap64 ((lo : Int) + ((spl (hi - lo) : Nat) : Int)) = ((lo + spl (hi - lo) : Nat) : Int) by unfold wrap64; omega]
     refine bsk (ih _ _ _ _ _ (by omega) (by omega) (by omega) (by omega)) (bsk (ih _ _ _ _ _ (by omega) (by omega) (by omega) (by omega)) ?_)
     rw [ahead_append]
     refine congrArg some ?_
     unfold wrap64
     omega
where
 ahead_le : ∀ (xs : List NO) (a : Int), ahead xs a ≤ xs.length
  | [], _ => Nat.le_refl _
  | x :: xs, a => by
   have := ahead_le xs a
   simp only [ahead, List.length_cons]
   split <;> omega
theorem ahead_old {m n lo : Nat} (h0 : 0 < n) (h : n ≤ 256) (hl : lo ≤ m) : ahead (gnodes m n) (lo : Int) = ahead (grow m n).1 (lo : Int) := by
 unfold gnodes
 rw [ahead_append, ahead_none (xs := (grow m n).2) (fun x hx => by have := (fall_in n 0 n m (by omega) h h0).2 x hx; omega)]
 rfl
theorem ahead_new {m n lo : Nat} (h0 : 0 < m) (hn : m < n) (h : n ≤ 256) (hl : m ≤ lo) : ahead (gnodes m n) (lo : Int) = popc m + ahead (grow m n).2 (lo : Int) := by
 unfold gnodes
 rw [ahead_append, ahead_all (xs := (grow m n).1) (fun x hx => by have := (fall_in n 0 n m (by omega) h (by omega)).1 x hx; omega)]
 have := fall_old n 0 n m (by omega) h h0 hn
 rw [Nat.sub_zero] at this
 unfold grow
 rw [this]
def Within (f lo hi m n : Nat) : Prop := (∀ x ∈ (fallF f lo hi m).1, x ∈ gnodes m n) ∧ ∀ x ∈ (fallF f lo hi m).2, x ∈ gnodes m n
theorem within_all (m n : Nat) : Within n 0 n m n := ⟨fun x hx => List.mem_append_left _ hx, fun x hx => List.mem_append_right _ hx⟩
theorem Within.left {f lo hi m n : Nat} (h : Within (f + 1) lo hi m n) (h1 : ¬ hi ≤ m) (h2 : ¬ m ≤ lo) : Within f lo (lo + spl (hi - lo)) m n := by
 unfold Within at h
 simp only [fallF] at h
 rw [if_neg h1, if_neg h2] at h
 exact ⟨fun x hx => h.1 x (List.mem_append_left _ hx), fun x hx => h.2 x (List.mem_append_left _ hx)⟩
theorem Within.right {f lo hi m n : Nat} (h : Within (f + 1) lo hi m n) (h1 : ¬ hi ≤ m) (h2 : ¬ m ≤ lo) : Within f (lo + spl (hi - lo)) hi m n := by
 unfold Within at h
 simp only [fallF] at h
 rw [if_neg h1, if_neg h2] at h
 exact ⟨fun x hx => h.1 x (List.mem_append_right _ hx), fun x hx => h.2 x (List.mem_append_right _ hx)⟩
theorem Within.here {f lo hi m n : Nat} (h : Within (f + 1) lo hi m n) (h1 : hi ≤ m ∨ m ≤ lo) : (⟨(lo : Int), (hi : Int)⟩ : NO) ∈ gnodes m n := by
 unfold Within at h
 simp only [fallF] at h
 by_cases c : hi ≤ m
 ·rw [if_pos c] at h
  exact h.1 _ List.mem_cons_self
 ·rw [if_neg c, if_pos (by omega)] at h
  exact h.2 _ List.mem_cons_self
theorem given_is {m n : Nat} (h0 : 0 < n) (h : n ≤ 256) {P : List SD} (hP : P.length = (gnodes m n).length) {a b : Nat} (hx : (⟨(a : Int), (b : Int)⟩ : NO) ∈ gnodes m n) : ∃ hj : ahead (gnodes m n) (a : Int) < P.length, given m n P a = P[ahead (gnodes m n) (a : Int)] := by
 obtain ⟨hj, e⟩ := ahead_lt (gnodes_sorted h0 h) hx
 have hj' : ahead (gnodes m n) (a : Int) < P.length := by rw [hP]; exact hj
 refine ⟨hj', ?_⟩
 unfold given
 rw [List.getD, List.getElem?_eq_getElem hj']
 rfl
theorem rdG_nat {l : List SD} {i : Nat} (h : i < l.length) : rd_T29 l (i : Int) = l[i] := by simp [rd_T29, List.getD, List.getElem?_eq_getElem h]
theorem wrap_add {a b c : Nat} (h : c = a + b) (h2 : c ≤ 256) : wrap64 ((a : Int) + (b : Int)) = (c : Int) := by
 subst h
 unfold wrap64
 omega
theorem spec_node (f : Nat) {m n : Nat} (h0 : 0 < m) (hmn : m < n) (h : n ≤ 256) {P : List SD} (hP : P.length = (gnodes m n).length) : ∀ (k lo hi : Nat), hi - lo ≤ f → lo < hi → hi ≤ n → Within f lo hi m n → 31000 + f < k →
  spec_l3Node.f k (lo : Int) (hi : Int) (m : Int) (n : Int) P = some (digF f lo hi m (given m n P)) := by
 induction f with
 | zero => intro k lo hi a b; omega
 | succ f ih =>
  intro k lo hi a b c w hk
  obtain ⟨k, rfl⟩ : ∃ q, k = q + 1 := ⟨k - 1, by omega⟩
  simp only [spec_l3Node.f, digF]
  by_cases c1 : m ≤ lo
  ·obtain ⟨hj, e⟩ := given_is (by omega) h hP (w.here (.inr c1))
   have e1 := ahead_new h0 hmn h c1
   have hr := rests_at n k 0 n m lo (by omega) (by omega) h (by omega)
   have hl := gnodes_len (m := m) (n := n) (by omega) h
   rw [if_pos (by omega), if_pos (Or.inr c1)]
   refine bsk (spec_count (by omega) (by omega)) (bsk hr ?_)
   have e2 : ahead (gnodes m n) (lo : Int) = popc m + ahead (fallF n 0 n m).2 (lo : Int) := e1
   have hj2 := hP ▸ hj
   rw [wrap_add e2 (Nat.le_trans (Nat.le_of_lt hj2) (Nat.le_trans hl h)), if_pos (Int.natCast_nonneg _), if_pos (Int.ofNat_lt.2 hj), rdG_nat hj, e]
  ·rw [if_neg (by omega)]
   by_cases c2 : hi ≤ m
   ·obtain ⟨hj, e⟩ := given_is (by omega) h hP (w.here (.inl c2))
    have e1 := ahead_old (m := m) (n := n) (lo := lo) (by omega) h (by omega)
    have hr := peaksAhead_l m k 0 m lo 0 (by omega) (by omega) (by omega) (by omega)
    rw [if_pos (by omega), if_pos (Or.inl c2)]
    have ew : ahead (oldF m 0 m) (lo : Int) = ahead (gnodes m n) (lo : Int) := by
     rw [e1]
     unfold grow
     rw [fall_oldF n 0 n m m (by omega) h h0 hmn (by omega)]
    rw [Nat.zero_add, ew] at hr
    refine bsk hr ?_
    rw [if_pos (Int.natCast_nonneg _), if_pos (Int.ofNat_lt.2 hj), rdG_nat hj, e]
   ·have hs := spl_lt (n := hi - lo) (by omega) (by omega)
    rw [if_neg (by omega), if_neg (by omega), show wrap64 ((hi : Int) - (lo : Int)) = ((hi - lo : Nat) : Int) by unfold wrap64; omega]
    refine bsk (spec_split (by omega) (by omega) (by omega)) ?_
    rw [show wrap64 ((lo : Int) + ((spl (hi - lo) : Nat) : Int)) = ((lo + spl (hi - lo) : Nat) : Int) by unfold wrap64; omega]
    refine bsk (ih k _ _ (by omega) (by omega) (by omega) (w.left c2 c1) (by omega)) (bsk (ih k _ _ (by omega) (by omega) (by omega) (w.right c2 c1) (by omega)) ?_)
    exact bsk (spec_pair (by omega) _ _ _ _ _ _ _ _) rfl
theorem okN_nat {a b : Nat} (ha : a ≤ 256) (hb : b ≤ 256) : okN (a : Int) (b : Int) := by
 unfold okN
 simp [Lit.wf, IntKind.min, IntKind.max, IntKind.signed, IntKind.bits]
 omega
theorem look_f {M : MapD} {a b : Nat} (ha : a ≤ 256) (hb : b ≤ 256) : impl_lookAt.f M (a : Int) (b : Int) = some (match lookD M (a : Int) (b : Int) with | some d => (d.f0, d.f1, d.f2, d.f3, true) | none => (0, 0, 0, 0, false)) := by
 unfold impl_lookAt.f
 rw [if_pos (okN_nat ha hb)]
 cases lookD M (a : Int) (b : Int) <;> rfl
theorem impl_digestBy (f : Nat) {m n : Nat} (h0 : 0 < n) (h : n ≤ 256) {P : List SD} (hP : P.length = (gnodes m n).length) : ∀ (k lo hi : Nat), hi - lo ≤ f → lo < hi → hi ≤ n → Within f lo hi m n → 31000 + f < k →
  impl_digestBy.f k (putAll (gnodes m n) P []) (lo : Int) (hi : Int) = some (digF f lo hi m (given m n P)) := by
 induction f with
 | zero => intro k lo hi a b; omega
 | succ f ih =>
  intro k lo hi a b c w hk
  obtain ⟨k, rfl⟩ : ∃ q, k = q + 1 := ⟨k - 1, by omega⟩
  simp only [impl_digestBy.f, digF]
  refine bsk (look_f (by omega) (by omega)) ?_
  by_cases c1 : hi ≤ m ∨ m ≤ lo
  ·rw [look_given h0 h hP (w.here c1), if_pos c1]
   dsimp only
   rw [if_pos rfl]
  ·rw [look_over h0 h P (a := lo) (b := hi) (by omega) (by omega), if_neg c1]
   dsimp only
   have hs := spl_lt (n := hi - lo) (by omega) (by omega)
   rw [if_neg (by simp)]
   refine bsk (halves (by omega) (by omega) (by omega)) ?_
   refine bsk (ih k _ _ (by omega) (by omega) (by omega) (w.left (by omega) (by omega)) (by omega)) (bsk (ih k _ _ (by omega) (by omega) (by omega) (w.right (by omega) (by omega)) (by omega)) ?_)
   exact bsk (impl_pair (by omega) _ _ _ _ _ _ _ _) rfl
theorem rdK_nat {l : List NO} {i : Nat} (h : i < l.length) : rd_T100 l (i : Int) = l[i] := by simp [rd_T100, List.getD, List.getElem?_eq_getElem h]
theorem known_l (n : Nat) : ∀ (k : Nat) (P : List SD) (M : MapD) (xs : List NO) (i : Nat), xs.length = i + n → xs.length ≤ 1000 → xs.length = P.length → (∀ x ∈ xs, okN x.f0 x.f1) → n < k →
  impl_known.l0 k P M xs (xs.length : Int) (i : Int) = some (putAll (xs.drop i) (P.drop i) M) := by
 induction n with
 | zero =>
  intro k P M xs i h h1 hP hx hk
  obtain ⟨k, rfl⟩ : ∃ q, k = q + 1 := ⟨k - 1, by omega⟩
  simp only [impl_known.l0]
  rw [if_neg (by omega), List.drop_of_length_le (by omega)]
  rfl
 | succ n ih =>
  intro k P M xs i h h1 hP hx hk
  obtain ⟨k, rfl⟩ : ∃ q, k = q + 1 := ⟨k - 1, by omega⟩
  have hi : i < xs.length := by omega
  have hj : i < P.length := by omega
  simp only [impl_known.l0]
  rw [if_pos (by omega), if_pos (by omega), if_pos (by omega), if_pos (by omega), rdK_nat hi, rdG_nat hj]
  refine bsk (v := (xs[i], P[i]) :: M) ?_ ?_
  ·unfold impl_putAt.f
   rw [if_pos (hx _ (List.getElem_mem hi))]
  ·rw [step64 (by omega), ih k P _ xs (i + 1) (by omega) h1 hP hx (by omega), List.drop_eq_getElem_cons hi, List.drop_eq_getElem_cons hj]
   rfl
theorem impl_known {k m n : Nat} (hk : 1000 < k) (h0 : 0 < n) (h : n ≤ 256) {P : List SD} (hP : P.length = (gnodes m n).length) : impl_known.f k (m : Int) (n : Int) P = some (putAll (gnodes m n) P []) := by
 unfold impl_known.f
 have hl := gnodes_len (m := m) h0 h
 have hl2 : (grow m n).1.length + (grow m n).2.length = (gnodes m n).length := by unfold gnodes; rw [List.length_append]
 refine bsk (impl_nodes (by omega) h0 h) (bsk (v := []) rfl ?_)
 rw [if_pos (by omega)]
 simp only [Option.bind_some]
 have := known_l (gnodes m n).length k P [] (gnodes m n) 0 (by omega) (by omega) hP.symm (fun x hx => by
  have hb : (0 : Int) ≤ x.f0 ∧ x.f0 < x.f1 ∧ x.f1 ≤ (n : Int) := by
   rcases List.mem_append.1 hx with hx | hx
   ·have := (fall_in n 0 n m (by omega) h h0).1 x hx; omega
   ·have := (fall_in n 0 n m (by omega) h h0).2 x hx; omega
  have := okN_nat (a := x.f0.toNat) (b := x.f1.toNat) (by omega) (by omega)
  rw [Int.toNat_of_nonneg hb.1, Int.toNat_of_nonneg (by omega)] at this
  exact this) (by omega)
 rw [List.drop_zero, List.drop_zero] at this
 exact this
end
end Go.Proofs.Ytflckegggopdnaa.Q
namespace Go.Proofs.Ytflckegggopdnaa.Q
section
open Go.RowKit Go.Proofs.Ytflckegggopdnaa.B Go.Proofs.YtflckegggopdnaaW
def d4 (d : SD) : D4 := (d.f0, d.f1, d.f2, d.f3)
def proot : List SD → D4
 | [] => hashOf ⟨#[]⟩
 | [p] => d4 p
 | p :: q :: r => hashPair (d4 p) (proot (q :: r))
def peaksRoot (l : List SD) : D4 := if l.length > 8 then (0, 0, 0, 0) else proot l
theorem rdD_nat {l : List SD} {i : Nat} (h : i < l.length) : rd_T29 l (i : Int) = l[i] := by simp [rd_T29, List.getD, List.getElem?_eq_getElem h]
theorem proot_drop {l : List SD} {i : Nat} (h : i + 1 < l.length) : proot (l.drop i) = hashPair (d4 l[i]) (proot (l.drop (i + 1))) := by
 rw [List.drop_eq_getElem_cons (by omega : i < l.length), List.drop_eq_getElem_cons h]
 rfl
theorem impl_proot_l (n : Nat) : ∀ (k : Nat) (l : List SD), l.length = n → n ≤ 8 → 30000 + n < k → impl_PeaksRoot.f k l = some (proot l) := by
 induction n with
 | zero =>
  intro k l hl _ hk
  obtain ⟨k, rfl⟩ : ∃ m, k = m + 1 := ⟨k - 1, by omega⟩
  obtain rfl : l = [] := List.eq_nil_of_length_eq_zero hl
  simp only [impl_PeaksRoot.f]
  rw [if_pos (by simp), impl_hash (by omega)]
  rfl
 | succ n ih =>
  intro k l hl hn hk
  obtain ⟨k, rfl⟩ : ∃ m, k = m + 1 := ⟨k - 1, by omega⟩
  simp only [impl_PeaksRoot.f]
  rw [if_neg (by omega), if_neg (by omega)]
  match l, hl with
  | [p], _ => rfl
  | p :: q :: r, hl =>
   rw [if_neg (by simp; omega), if_pos (by omega), if_pos (by simp; omega), List.drop_one, List.tail_cons, ih k (q :: r) (by simpa using hl) (by omega) (by omega)]
   simp only [Option.bind_some]
   rw [impl_pair (by omega)]
   rfl
theorem impl_proot {k : Nat} (hk : 30010 < k) (l : List SD) (hm : l.length < 1099511627776) : impl_PeaksRoot.f k l = some (peaksRoot l) := by
 unfold peaksRoot
 by_cases h : l.length > 8
 ·rw [if_pos h]
  obtain ⟨k, rfl⟩ : ∃ m, k = m + 1 := ⟨k - 1, by omega⟩
  simp only [impl_PeaksRoot.f]
  rw [if_neg (by omega), if_pos (by omega)]
 ·rw [if_neg h]
  exact impl_proot_l l.length k l rfl (by omega) (by omega)
theorem spec_proot_l (i : Nat) : ∀ (k : Nat) (l : List SD) (r : D4), i < l.length → l.length ≤ 8 → r = proot (l.drop i) → 30000 + i < k → spec_PeaksRoot.l0 k l ((i : Int) - 1) r.1 r.2.1 r.2.2.1 r.2.2.2 = some (proot l) := by
 induction i with
 | zero =>
  intro k l r hl h8 hr hk
  obtain ⟨k, rfl⟩ : ∃ m, k = m + 1 := ⟨k - 1, by omega⟩
  simp only [spec_PeaksRoot.l0]
  rw [if_neg (by omega)]
  simp only [List.drop_zero] at hr
  rw [← hr]
 | succ i ih =>
  intro k l r hl h8 hr hk
  obtain ⟨k, rfl⟩ : ∃ m, k = m + 1 := ⟨k - 1, by omega⟩
  simp only [spec_PeaksRoot.l0]
  rw [show (((i + 1 : Nat) : Int) - 1) = (i : Int) by omega, if_pos (by omega), if_pos (by omega), if_pos (by omega), rdD_nat (by omega : i < l.length), spec_pair (by omega)]
  simp only [Option.bind_some]
  rw [show wrap64 ((i : Int) - 1) = (i : Int) - 1 by unfold wrap64; omega]
  exact ih k l _ (by omega) h8 (by rw [proot_drop hl, ← hr]; rfl) (by omega)
theorem spec_proot {k : Nat} (hk : 30010 < k) (l : List SD) (hm : l.length < 1099511627776) : spec_PeaksRoot.f k l = some (peaksRoot l) := by
 unfold spec_PeaksRoot.f peaksRoot
 by_cases h : l.length > 8
 ·rw [if_pos (by omega), if_pos h]
 ·rw [if_neg (by omega), if_neg h]
  by_cases h0 : l.length = 0
  ·obtain rfl : l = [] := List.eq_nil_of_length_eq_zero h0
   rw [if_pos (by simp), spec_hash (by omega)]
   rfl
  ·rw [if_neg (by omega), show wrap64 ((l.length : Int) - 1) = ((l.length - 1 : Nat) : Int) by unfold wrap64; omega, if_pos (by omega), if_pos (by omega), rdD_nat (by omega), show wrap64 ((l.length : Int) - 2) = ((l.length - 1 : Nat) : Int) - 1 by unfold wrap64; omega]
   exact spec_proot_l (l.length - 1) k l (d4 l[l.length - 1]) (by omega) (by omega) (by
    rw [List.drop_eq_getElem_cons (by omega : l.length - 1 < l.length), List.drop_of_length_le (by omega)]
    rfl) (by omega)
end
end Go.Proofs.Ytflckegggopdnaa.Q
namespace Go.Proofs.Ytflckegggopdnaa.Q
section
open Go.RowKit Go.Proofs.Ytflckegggopdnaa.B Go.Proofs.YtflckegggopdnaaW
def nd (a b : D4) : Bool := !(a.1 == b.1) || (!(a.2.1 == b.2.1) || (!(a.2.2.1 == b.2.2.1) || (!(a.2.2.2 == b.2.2.2))))
theorem nd_iff (a b : D4) : nd a b = true ↔ a ≠ b := by
 obtain ⟨a1, a2, a3, a4⟩ := a
 obtain ⟨b1, b2, b3, b4⟩ := b
 simp only [nd, Bool.or_eq_true, Bool.not_eq_true', beq_eq_false_iff_ne, ne_eq, Prod.mk.injEq]
 constructor
 ·rintro h ⟨rfl, rfl, rfl, rfl⟩
  simp at h
 ·intro h
  by_cases h1 : a1 = b1
  ·by_cases h2 : a2 = b2
   ·by_cases h3 : a3 = b3
    ·exact .inr (.inr (.inr fun h4 => h ⟨h1, h2, h3, h4⟩))
    ·exact .inr (.inr (.inl h3))
   ·exact .inr (.inl h2)
  ·exact .inl h1
theorem nd_comm (a b : D4) : nd a b = nd b a := by
 by_cases h : a = b
 ·rw [h]
 ·rw [(nd_iff a b).2 h, (nd_iff b a).2 (fun e => h e.symm)]
def digRoot (m n : Nat) (P : List SD) : D4 := digF n 0 n m (given m n P)
def gcheck (m n : Int) (a b : D4) (P : List SD) : Int :=
 if 0 ≤ m ∧ m ≤ n ∧ n ≤ 256 then
  if (P.length : Int) = growLen m n then
   if m = 0 then (if nd a (hashOf (⟨#[]⟩ : ByteArray)) = true then 3 else if n = 0 ∧ nd a b = true then 4 else 0)
   else if m = n then (if nd a b = true then 4 else 0)
   else if nd (peaksRoot (P.take (popc m.toNat))) a = true then 3 else if nd (digRoot m.toNat n.toNat P) b = true then 4 else 0
  else 2
 else 1
theorem mayGrow (m n : Int) : impl_mayGrow.f m n = some (decide (0 ≤ m ∧ m ≤ n ∧ n ≤ 256)) := by
 unfold impl_mayGrow.f
 refine bsk impl_in ?_
 by_cases h : 0 ≤ n ∧ n ≤ 256
 ·rw [if_pos (by simpa using h)]
  refine bsk impl_in ?_
  refine congrArg some (decide_eq_decide.2 ?_)
  omega
 ·rw [if_neg (by simpa using h)]
  refine congrArg some (decide_eq_false ?_).symm
  omega
theorem sizesOk (m n : Int) : spec_l3Sizes.f m n = some (decide (0 ≤ m ∧ m ≤ n ∧ n ≤ 256)) := by
 unfold spec_l3Sizes.f
 refine bsk spec_in ?_
 by_cases h : 0 ≤ m ∧ m ≤ n
 ·rw [if_pos (by simpa using h)]
  refine congrArg some (decide_eq_decide.2 ?_)
  omega
 ·rw [if_neg (by simpa using h)]
  refine congrArg some (decide_eq_false ?_).symm
  omega
theorem growLen_in {m n : Nat} (h0 : 0 < m) (h1 : m < n) (h : n ≤ 256) : growLen (m : Int) (n : Int) = (((gnodes m n).length : Nat) : Int) := by
 unfold growLen gnodes
 rw [if_pos (by omega), if_neg (by omega), Int.toNat_natCast, Int.toNat_natCast, List.length_append]
theorem popc_old {m n : Nat} (h0 : 0 < m) (h1 : m < n) (h : n ≤ 256) : popc m ≤ (gnodes m n).length := by
 have := fall_old n 0 n m (by omega) h h0 h1
 rw [Nat.sub_zero] at this
 unfold gnodes grow
 rw [List.length_append, this]
 exact Nat.le_add_right _ _
theorem impl_gcheck1 {k : Nat} (hk : 60000 < k) {m n : Nat} (h0 : 0 < m) (h1 : m < n) (h : n ≤ 256) (a b : D4) {P : List SD} (hP : P.length = (gnodes m n).length) (x : Bool) :
  impl_GrowthCheck.j1 (k + 1) P (m : Int) (n : Int) true x (m : Int) a.1 a.2.1 a.2.2.1 a.2.2.2 (n : Int) b.1 b.2.1 b.2.2.1 b.2.2.2 = some (if x = true then 3 else if nd (digRoot m n P) b = true then 4 else 0) := by
 rw [impl_GrowthCheck.j1]
 cases x with
 | true => rw [if_pos rfl, if_pos rfl]
 | false =>
  rw [if_neg (show ¬ false = true by simp), if_neg (show ¬ ((m : Int) = (n : Int)) by omega), if_pos rfl, if_neg (show ¬ false = true by simp)]
  refine bsk (impl_known (by omega) (by omega) h hP) ?_
  have := impl_digestBy n (m := m) (by omega) h hP k 0 n (by omega) (by omega) (Nat.le_refl _) (within_all m n) (by omega)
  refine bsk this ?_
  show (if nd (digRoot m n P) b = true then _ else _) = _
  by_cases c : nd (digRoot m n P) b = true
  ·rw [if_pos c, if_pos c]
  ·rw [if_neg c, if_neg c]
theorem impl_gcheck {k : Nat} (hk : 60000 < k) (m n : Int) (a b : D4) {P : List SD} (hm : P.length < 1099511627776) :
  impl_GrowthCheck.f (k + 2) m a.1 a.2.1 a.2.2.1 a.2.2.2 n b.1 b.2.1 b.2.2.1 b.2.2.2 P = some (gcheck m n a b P) := by
 have e : impl_GrowthCheck.f (k + 2) m a.1 a.2.1 a.2.2.1 a.2.2.2 n b.1 b.2.1 b.2.2.1 b.2.2.2 P = impl_GrowthCheck.j0 (k + 2) P m n (decide (0 < m ∧ m < n)) m a.1 a.2.1 a.2.2.1 a.2.2.2 n b.1 b.2.1 b.2.2.1 b.2.2.2 := by
  unfold impl_GrowthCheck.f
  by_cases c : m > 0
  ·rw [if_pos c]
   refine congrArg (fun x => impl_GrowthCheck.j0 (k + 2) P m n x m a.1 a.2.1 a.2.2.1 a.2.2.2 n b.1 b.2.1 b.2.2.1 b.2.2.2) (decide_eq_decide.2 ?_)
   omega
  ·rw [if_neg c]
   refine congrArg (fun x => impl_GrowthCheck.j0 (k + 2) P m n x m a.1 a.2.1 a.2.2.1 a.2.2.2 n b.1 b.2.1 b.2.2.1 b.2.2.2) (decide_eq_false ?_).symm
   omega
 rw [e]
 unfold gcheck
 rw [impl_GrowthCheck.j0]
 refine bsk (mayGrow m n) ?_
 by_cases c : 0 ≤ m ∧ m ≤ n ∧ n ≤ 256
 ·rw [if_pos (by simpa using c), if_pos c]
  refine bsk (impl_growLen (by omega) m n) ?_
  by_cases c1 : (P.length : Int) = growLen m n
  ·rw [if_pos c1, if_pos c1]
   by_cases c2 : m = 0
   ·rw [if_pos c2, if_pos c2]
    refine bsk (impl_hash (by omega) _) ?_
    show (if nd a (hashOf (⟨#[]⟩ : ByteArray)) = true then _ else _) = _
    by_cases c3 : nd a (hashOf (⟨#[]⟩ : ByteArray)) = true
    ·rw [if_pos c3, if_pos c3]
     rw [impl_GrowthCheck.j1]
     rw [if_pos rfl]
    ·rw [if_neg c3, if_neg c3, if_neg (by simp; omega)]
     rw [impl_GrowthCheck.j1]
     rw [if_neg (by simp)]
     by_cases c4 : n = 0
     ·rw [if_pos (by omega)]
      show (if nd a b = true then _ else _) = _
      by_cases c5 : nd a b = true
      ·rw [if_pos c5, if_pos ⟨c4, c5⟩]
      ·rw [if_neg c5, if_neg (by simp; omega), if_neg (fun hh => c5 hh.2)]
     ·rw [if_neg (by omega), if_neg (by simp; omega), if_neg (fun hh => c4 hh.1)]
   ·rw [if_neg c2, if_neg c2]
    by_cases c3 : m = n
    ·rw [if_neg (by simp; omega), if_pos c3]
     rw [impl_GrowthCheck.j1]
     rw [if_neg (by simp), if_pos c3]
     show (if nd a b = true then _ else _) = _
     by_cases c5 : nd a b = true
     ·rw [if_pos c5, if_pos c5]
     ·rw [if_neg c5, if_neg (by simp; omega), if_neg c5]
    ·rw [if_pos (by simp; omega), if_neg c3]
     obtain ⟨m, rfl⟩ : ∃ q : Nat, m = (q : Int) := ⟨m.toNat, by omega⟩
     obtain ⟨n, rfl⟩ : ∃ q : Nat, n = (q : Int) := ⟨n.toNat, by omega⟩
     have hmn : m < n := by omega
     rw [growLen_in (by omega) hmn (by omega)] at c1
     have hP : P.length = (gnodes m n).length := by omega
     have hp := popc_old (m := m) (n := n) (by omega) hmn (by omega)
     refine bsk (impl_count (by omega)) ?_
     rw [if_pos (Int.natCast_nonneg _), if_pos (Int.ofNat_le.2 (by rw [hP]; exact hp)), Int.toNat_natCast, Int.toNat_natCast, Int.toNat_natCast]
     refine bsk (impl_proot (by omega) _ (by rw [List.length_take]; omega)) ?_
     rw [decide_eq_true (show 0 < (m : Int) ∧ (m : Int) < (n : Int) by omega)]
     exact impl_gcheck1 (by omega) (by omega) hmn (by omega) a b hP _
  ·rw [if_neg c1, if_neg c1]
 ·rw [if_neg (by simpa using c), if_neg c]
theorem spec_gcheck {k : Nat} (hk : 60000 < k) (m n : Int) (a b : D4) {P : List SD} (hm : P.length < 1099511627776) :
  spec_GrowthCheck.f (k + 1) m a.1 a.2.1 a.2.2.1 a.2.2.2 n b.1 b.2.1 b.2.2.1 b.2.2.2 P = some (gcheck m n a b P) := by
 unfold spec_GrowthCheck.f gcheck
 refine bsk (sizesOk m n) ?_
 by_cases c : 0 ≤ m ∧ m ≤ n ∧ n ≤ 256
 ·rw [if_pos (by simpa using c), if_pos c]
  refine bsk (spec_growLen (by omega) m n) ?_
  by_cases c1 : (P.length : Int) = growLen m n
  ·rw [if_pos c1, if_pos c1]
   by_cases c2 : m = 0
   ·rw [if_pos c2, if_pos c2]
    refine bsk (spec_hash (by omega) _) ?_
    show spec_GrowthCheck.j0 (k + 1) P m n (nd a (hashOf (⟨#[]⟩ : ByteArray))) m a.1 a.2.1 a.2.2.1 a.2.2.2 n b.1 b.2.1 b.2.2.1 b.2.2.2 = _
    rw [spec_GrowthCheck.j0]
    by_cases c3 : nd a (hashOf (⟨#[]⟩ : ByteArray)) = true
    ·rw [if_pos c3, if_pos c3]
    ·rw [if_neg c3, if_neg c3]
     by_cases c4 : n = 0
     ·rw [if_pos (by omega)]
      show (if nd b a = true then _ else _) = _
      rw [nd_comm b a]
      by_cases c5 : nd a b = true
      ·rw [if_pos c5, if_pos ⟨c4, c5⟩]
      ·rw [if_neg c5, if_neg (fun hh => c5 hh.2)]
     ·rw [if_neg (by omega), if_pos c2, if_neg (fun hh => c4 hh.1)]
   ·rw [if_neg c2, if_neg c2]
    rw [spec_GrowthCheck.j0]
    rw [if_neg (by simp)]
    by_cases c3 : m = n
    ·rw [if_pos c3, if_pos c3]
     show (if nd b a = true then _ else _) = _
     rw [nd_comm b a]
     by_cases c5 : nd a b = true
     ·rw [if_pos c5, if_pos c5]
     ·rw [if_neg c5, if_neg c5]
    ·rw [if_neg c3, if_neg c3, if_neg c2]
     obtain ⟨m, rfl⟩ : ∃ q : Nat, m = (q : Int) := ⟨m.toNat, by omega⟩
     obtain ⟨n, rfl⟩ : ∃ q : Nat, n = (q : Int) := ⟨n.toNat, by omega⟩
     have hmn : m < n := by omega
     rw [growLen_in (by omega) hmn (by omega)] at c1
     have hP : P.length = (gnodes m n).length := by omega
     have hp := popc_old (m := m) (n := n) (by omega) hmn (by omega)
     refine bsk (spec_count (by omega) (by omega)) ?_
     rw [if_pos (Int.natCast_nonneg _), if_pos (Int.ofNat_le.2 (by rw [hP]; exact hp)), Int.toNat_natCast, Int.toNat_natCast, Int.toNat_natCast]
     refine bsk (spec_proot (by omega) _ (by rw [List.length_take]; omega)) ?_
     show (if nd (peaksRoot (P.take (popc m))) a = true then _ else _) = _
     by_cases c5 : nd (peaksRoot (P.take (popc m))) a = true
     ·rw [if_pos c5, if_pos c5]
     ·rw [if_neg c5, if_neg c5]
      have := spec_node n (m := m) (by omega) hmn (by omega) hP k 0 n (by omega) (by omega) (Nat.le_refl _) (within_all m n) (by omega)
      refine bsk this ?_
      show (if nd (digRoot m n P) b = true then _ else _) = _
      by_cases c6 : nd (digRoot m n P) b = true
      ·rw [if_pos c6, if_pos c6]
      ·rw [if_neg c6, if_neg c6]
  ·rw [if_neg c1, if_neg c1]
 ·rw [if_neg (by simpa using c), if_neg c]
end
end Go.Proofs.Ytflckegggopdnaa.Q
namespace Go.Proofs.Ytflckegggopdnaa.Q
section
open Go.RowKit Go.Proofs.Ytflckegggopdnaa.B Go.Proofs.YtflckegggopdnaaW
theorem digests_l1 (n : Nat) : ∀ (k : Nat) (b acc : List SD) (i : Nat), b.length = i + n → n < k → acc.length + n < 1000000 → b.length < 1099511627776 → spec_l3Digests.l1 k b acc (i : Int) = some (acc ++ b.drop i) := by
 induction n with
 | zero =>
  intro k b acc i hl hk ha hm
  obtain ⟨k, rfl⟩ : ∃ m, k = m + 1 := ⟨k - 1, by omega⟩
  simp only [spec_l3Digests.l1]
  rw [if_neg (by omega), List.drop_of_length_le (by omega), List.append_nil]
 | succ n ih =>
  intro k b acc i hl hk ha hm
  obtain ⟨k, rfl⟩ : ∃ m, k = m + 1 := ⟨k - 1, by omega⟩
  have hi : i < b.length := by omega
  simp only [spec_l3Digests.l1]
  rw [if_pos (by omega), if_pos (by omega), if_pos (by omega), show (⟨(rd_T29 b (i : Int)).f0, (rd_T29 b (i : Int)).f1, (rd_T29 b (i : Int)).f2, (rd_T29 b (i : Int)).f3⟩ : SD) = rd_T29 b (i : Int) from rfl]
  rw [show rd_T29 b (i : Int) = b[i] by simp [rd_T29, List.getD, List.getElem?_eq_getElem hi], step64 (by omega), ih k b _ (i + 1) (by omega) (by omega) (by simp; omega) hm, List.drop_eq_getElem_cons hi, List.append_assoc]
  rfl
theorem digests_l0 (n : Nat) : ∀ (k : Nat) (a b acc : List SD) (i : Nat), a.length = i + n → n + b.length + 1 < k → acc.length + n + b.length < 1000000 → a.length < 1099511627776 → b.length < 1099511627776 → spec_l3Digests.l0 k a b acc (i : Int) = some (acc ++ a.drop i ++ b) := by
 induction n with
 | zero =>
  intro k a b acc i hl hk ha hm hb
  obtain ⟨k, rfl⟩ : ∃ m, k = m + 1 := ⟨k - 1, by omega⟩
  simp only [spec_l3Digests.l0]
  have := digests_l1 b.length k b acc 0 (by omega) (by omega) (by omega) hb
  rw [if_neg (by omega), show (0 : Int) = ((0 : Nat) : Int) from rfl, this, List.drop_of_length_le (by omega : a.length ≤ i), List.append_nil]
  rfl
 | succ n ih =>
  intro k a b acc i hl hk ha hm hb
  obtain ⟨k, rfl⟩ : ∃ m, k = m + 1 := ⟨k - 1, by omega⟩
  have hi : i < a.length := by omega
  simp only [spec_l3Digests.l0]
  rw [if_pos (by omega), if_pos (by omega), if_pos (by omega), show (⟨(rd_T29 a (i : Int)).f0, (rd_T29 a (i : Int)).f1, (rd_T29 a (i : Int)).f2, (rd_T29 a (i : Int)).f3⟩ : SD) = rd_T29 a (i : Int) from rfl]
  rw [show rd_T29 a (i : Int) = a[i] by simp [rd_T29, List.getD, List.getElem?_eq_getElem hi], step64 (by omega), ih k a b _ (i + 1) (by omega) (by omega) (by simp; omega) hm hb, List.drop_eq_getElem_cons hi]
  simp
theorem spec_digests {k : Nat} (a b : List SD) (hk : a.length + b.length + 2 < k) (h : a.length + b.length < 1000000) : spec_l3Digests.f k a b = some (a ++ b) := by
 unfold spec_l3Digests.f
 have := digests_l0 a.length k a b [] 0 (by omega) (by omega) (by simpa using h) (by omega) (by omega)
 simpa using this
end
end Go.Proofs.Ytflckegggopdnaa.Q
namespace Go.Proofs.Ytflckegggopdnaa.Q
section
open Go.RowKit Go.Proofs.Ytflckegggopdnaa.B Go.Proofs.YtflckegggopdnaaW
def pkO : Nat → Nat → Nat → Nat → Nat × Nat
 | 0, lo, m, _ => (lo, hlf (m - lo))
 | g + 1, lo, m, i => if lo + hlf (m - lo) ≤ i then pkO g (lo + hlf (m - lo)) m i else (lo, hlf (m - lo))
theorem pkO_is (g : Nat) : ∀ (lo m i : Nat), m - lo ≤ g → lo ≤ i → i < m → m ≤ 256 → ∃ e, (pkO g lo m i).2 = 2 ^ e ∧ e ≤ 8 ∧ lo ≤ (pkO g lo m i).1 ∧ (pkO g lo m i).1 ≤ i ∧ i < (pkO g lo m i).1 + (pkO g lo m i).2 ∧ (pkO g lo m i).1 + (pkO g lo m i).2 ≤ m := by
 induction g with
 | zero => intro lo m i h h0 h1; omega
 | succ g ih =>
  intro lo m i h h0 h1 h2
  have hh := hlf_le (n := m - lo) (by omega)
  simp only [pkO]
  by_cases c : lo + hlf (m - lo) ≤ i
  ·rw [if_pos c]
   obtain ⟨e, e1, e2, e3, e4, e5, e6⟩ := ih (lo + hlf (m - lo)) m i (by omega) c h1 h2
   exact ⟨e, e1, e2, by omega, e4, e5, e6⟩
  ·rw [if_neg c]
   refine ⟨(m - lo).log2, rfl, ?_, Nat.le_refl _, h0, by show i < lo + hlf (m - lo); omega, by show lo + hlf (m - lo) ≤ m; omega⟩
   rcases Nat.lt_or_ge 8 (m - lo).log2 with c2 | c2
   ·have h3 : (2 : Nat) ^ 9 ≤ 2 ^ (m - lo).log2 := Nat.pow_le_pow_right (by omega) (by omega)
    rw [show (2 : Nat) ^ 9 = 512 by rfl] at h3
    have h4 : hlf (m - lo) = 2 ^ (m - lo).log2 := rfl
    omega
   ·exact c2
def pkF : Nat → Nat → Nat → Nat → Nat → Nat × Nat
 | 0, lo, hi, _, _ => (lo, hi)
 | f + 1, lo, hi, i, m => if hi ≤ m then (lo, hi) else if i < lo + spl (hi - lo) then pkF f lo (lo + spl (hi - lo)) i m else pkF f (lo + spl (hi - lo)) hi i m
theorem pk_is (f : Nat) : ∀ (lo hi i m g : Nat), hi - lo ≤ f → hi ≤ 256 → lo ≤ i → i < m → m < hi → m - lo ≤ g → pkF f lo hi i m = ((pkO g lo m i).1, (pkO g lo m i).1 + (pkO g lo m i).2) := by
 induction f with
 | zero => intro lo hi i m g h h1 h2 h3 h4; omega
 | succ f ih =>
  intro lo hi i m g h h1 h2 h3 h4 hg
  obtain ⟨g, rfl⟩ : ∃ q, g = q + 1 := ⟨g - 1, by omega⟩
  simp only [pkF]
  rw [if_neg (by omega)]
  obtain ⟨e, he, h5, h6, h7⟩ := spl_is (n := hi - lo) (by omega) (by omega)
  have hs := spl_lt (n := hi - lo) (by omega) (by omega)
  by_cases c : i < lo + spl (hi - lo)
  ·rw [if_pos c]
   rcases Nat.lt_or_ge m (lo + spl (hi - lo)) with c2 | c2
   ·exact ih _ _ _ _ _ (by omega) (by omega) h2 h3 c2 hg
   ·have hh : hlf (m - lo) = spl (hi - lo) := by
     rw [he]
     exact hlf_is (by omega) (by omega)
    obtain ⟨f, rfl⟩ : ∃ q, f = q + 1 := ⟨f - 1, by omega⟩
    simp only [pkF, pkO]
    rw [if_pos c2, hh, if_neg (by omega)]
  ·rw [if_neg c]
   have hh : hlf (m - lo) = spl (hi - lo) := by
    rw [he]
    exact hlf_is (by omega) (by omega)
   rw [ih _ _ _ _ g (by omega) h1 (by omega) h3 h4 (by omega)]
   simp only [pkO]
   rw [hh, if_pos (by omega)]
def aboveF : Nat → Nat → Nat → Nat → Nat → (Nat → SD) → List SD
 | 0, _, _, _, _, _ => []
 | f + 1, lo, hi, i, m, g => if hi ≤ m then [] else if i < lo + spl (hi - lo) then aboveF f lo (lo + spl (hi - lo)) i m g ++ [toSD (digF f (lo + spl (hi - lo)) hi m g)] else aboveF f (lo + spl (hi - lo)) hi i m g ++ [toSD (digF f lo (lo + spl (hi - lo)) m g)]
theorem aboveF_len (f : Nat) : ∀ (lo hi i m : Nat) (g : Nat → SD), (aboveF f lo hi i m g).length ≤ f := by
 induction f with
 | zero => intro lo hi i m g; exact Nat.le_refl _
 | succ f ih =>
  intro lo hi i m g
  simp only [aboveF]
  split
  ·simp
  ·split
   ·rw [List.length_append]; exact Nat.succ_le_succ (ih _ _ _ _ _)
   ·rw [List.length_append]; exact Nat.succ_le_succ (ih _ _ _ _ _)
theorem spec_above (f : Nat) {m n : Nat} (h0 : 0 < m) (hmn : m < n) (h : n ≤ 256) {P : List SD} (hP : P.length = (gnodes m n).length) : ∀ (k lo hi i : Nat), f ≤ 1000 → hi - lo ≤ f → lo ≤ i → i < hi → i < m → hi ≤ n → Within f lo hi m n → 32000 + f < k →
  spec_l3Above.f k (lo : Int) (hi : Int) (i : Int) (m : Int) (n : Int) P = some (aboveF f lo hi i m (given m n P)) := by
 induction f with
 | zero => intro k lo hi i _ a b c; omega
 | succ f ih =>
  intro k lo hi i hf a b c d e w hk
  obtain ⟨k, rfl⟩ : ∃ q, k = q + 1 := ⟨k - 1, by omega⟩
  simp only [spec_l3Above.f, aboveF]
  by_cases c1 : hi ≤ m
  ·rw [if_pos (by omega), if_pos c1]
  ·have hs := spl_lt (n := hi - lo) (by omega) (by omega)
   rw [if_neg (by omega), if_neg c1, show wrap64 ((hi : Int) - (lo : Int)) = ((hi - lo : Nat) : Int) by unfold wrap64; omega]
   refine bsk (spec_split (by omega) (by omega) (by omega)) ?_
   rw [show wrap64 ((lo : Int) + ((spl (hi - lo) : Nat) : Int)) = ((lo + spl (hi - lo) : Nat) : Int) by unfold wrap64; omega]
   by_cases c2 : i < lo + spl (hi - lo)
   ·have l1 := aboveF_len f lo (lo + spl (hi - lo)) i m (given m n P)
    rw [if_pos (by omega), if_pos c2]
    refine bsk (ih k _ _ i (by omega) (by omega) b c2 d (by omega) (w.left c1 (by omega)) (by omega)) ?_
    refine bsk (spec_node f h0 hmn h hP k (lo + spl (hi - lo)) hi (by omega) (by omega) e (w.right c1 (by omega)) (by omega)) ?_
    rw [if_pos (by omega)]
    rfl
   ·have l1 := aboveF_len f (lo + spl (hi - lo)) hi i m (given m n P)
    rw [if_neg (by omega), if_neg c2]
    refine bsk (ih k _ _ i (by omega) (by omega) (by omega) c d e (w.right c1 (by omega)) (by omega)) ?_
    refine bsk (spec_node f h0 hmn h hP k lo (lo + spl (hi - lo)) (by omega) (by omega) (by omega) (w.left c1 (by omega)) (by omega)) ?_
    rw [if_pos (by omega)]
    rfl
theorem peakOf_l (g : Nat) : ∀ (k lo m i : Nat), m - lo ≤ g → lo ≤ i → i < m → m ≤ 256 → 20 + g < k → spec_l3PeakOf.l0 k (m : Int) (i : Int) (lo : Int) = some ((((pkO g lo m i).1 : Nat) : Int), (((pkO g lo m i).2 : Nat) : Int)) := by
 induction g with
 | zero => intro k lo m i h h0 h1; omega
 | succ g ih =>
  intro k lo m i h h0 h1 h2 hk
  obtain ⟨k, rfl⟩ : ∃ q, k = q + 1 := ⟨k - 1, by omega⟩
  have hh := hlf_le (n := m - lo) (by omega)
  have e := spec_hlf (k := k) (n := m - lo) (by omega) (by omega) (by omega)
  simp only [spec_l3PeakOf.l0, pkO]
  rw [show wrap64 ((m : Int) - (lo : Int)) = ((m - lo : Nat) : Int) by unfold wrap64; omega]
  refine bsk e ?_
  rw [show wrap64 ((lo : Int) + ((hlf (m - lo) : Nat) : Int)) = ((lo + hlf (m - lo) : Nat) : Int) by unfold wrap64; omega]
  by_cases c : lo + hlf (m - lo) ≤ i
  ·rw [if_pos (by omega), if_pos c]
   refine bsk e ?_
   rw [show wrap64 ((lo : Int) + ((hlf (m - lo) : Nat) : Int)) = ((lo + hlf (m - lo) : Nat) : Int) by unfold wrap64; omega]
   exact ih k _ m i (by omega) c h1 h2 (by omega)
  ·rw [if_neg (by omega), if_neg c]
   exact bsk e rfl
theorem depth_l (e : Nat) : ∀ (k d : Nat), e ≤ 8 → d + e ≤ 1000 → e < k → spec_l3Depth.l0 k ((2 ^ e : Nat) : Int) (d : Int) = some ((d + e : Nat) : Int) := by
 induction e with
 | zero =>
  intro k d _ _ hk
  obtain ⟨k, rfl⟩ : ∃ q, k = q + 1 := ⟨k - 1, by omega⟩
  simp only [spec_l3Depth.l0]
  rw [if_neg (by simp)]
  rfl
 | succ e ih =>
  intro k d he hd hk
  obtain ⟨k, rfl⟩ : ∃ q, k = q + 1 := ⟨k - 1, by omega⟩
  have hp : 0 < 2 ^ e := Nat.pow_pos (by omega)
  have hp2 : 2 ^ e ≤ 2 ^ 8 := Nat.pow_le_pow_right (by omega) (by omega)
  have e1 : wrap64 (Int.tdiv ((2 ^ (e + 1) : Nat) : Int) 2) = ((2 ^ e : Nat) : Int) := by
   rw [Int.tdiv_eq_ediv_of_nonneg (by omega), Nat.pow_succ]
   unfold wrap64
   omega
  simp only [spec_l3Depth.l0]
  rw [if_pos (by rw [Nat.pow_succ]; omega), e1, show wrap64 ((d : Int) + 1) = ((d + 1 : Nat) : Int) by unfold wrap64; omega, ih k (d + 1) (by omega) (by omega) (by omega)]
  refine congrArg some ?_
  omega
theorem spl_pow (e : Nat) (h : e ≤ 7) : spl (2 ^ (e + 1)) = 2 ^ e := by
 have hp : 0 < 2 ^ e := Nat.pow_pos (by omega)
 have hp2 : 2 ^ e ≤ 2 ^ 7 := Nat.pow_le_pow_right (by omega) h
 obtain ⟨q, h1, h2, h3, _⟩ := spl_is (n := 2 ^ (e + 1)) (by rw [Nat.pow_succ]; omega) (by rw [Nat.pow_succ]; omega)
 have a : q < e + 1 := (Nat.pow_lt_pow_iff_right (by omega)).1 h2
 have b : e + 1 ≤ q + 1 := (Nat.pow_le_pow_iff_right (by omega)).1 h3
 rw [h1, show q = e by omega]
theorem way_pow (e : Nat) : ∀ (f i lo hi : Nat), hi = lo + 2 ^ e → e ≤ 8 → lo ≤ i → i < hi → 2 ^ e ≤ f → (wayF f i lo hi).length = e := by
 induction e with
 | zero =>
  intro f i lo hi h _ h0 h1 hf
  obtain ⟨f, rfl⟩ : ∃ q, f = q + 1 := ⟨f - 1, by omega⟩
  simp only [wayF]
  rw [if_pos (by simp at h; omega)]
  rfl
 | succ e ih =>
  intro f i lo hi h he h0 h1 hf
  have hp : 0 < 2 ^ e := Nat.pow_pos (by omega)
  rw [Nat.pow_succ] at h hf
  obtain ⟨f, rfl⟩ : ∃ q, f = q + 1 := ⟨f - 1, by omega⟩
  have hs : spl (hi - lo) = 2 ^ e := by
   rw [show hi - lo = 2 ^ (e + 1) by rw [Nat.pow_succ]; omega]
   exact spl_pow e (by omega)
  simp only [wayF]
  rw [if_neg (by omega), hs]
  by_cases c : i < lo + 2 ^ e
  ·rw [if_pos c, List.length_cons, ih f i lo _ rfl (by omega) h0 c (by omega)]
  ·rw [if_neg c, List.length_cons, ih f i _ hi (by omega) (by omega) (by omega) h1 (by omega)]
theorem wayF_fuel (f : Nat) : ∀ (g i lo hi : Nat), hi - lo ≤ f → f ≤ g → hi ≤ 256 → wayF g i lo hi = wayF f i lo hi := by
 induction f with
 | zero =>
  intro g i lo hi h _ _
  cases g with
  | zero => rfl
  | succ g => simp only [wayF]; rw [if_pos (by omega)]
 | succ f ih =>
  intro g i lo hi h hg h2
  obtain ⟨g, rfl⟩ : ∃ q, g = q + 1 := ⟨g - 1, by omega⟩
  simp only [wayF]
  by_cases c : hi - lo ≤ 1
  ·rw [if_pos c, if_pos c]
  ·have hs := spl_lt (n := hi - lo) (by omega) (by omega)
   rw [if_neg c, if_neg c, ih g i lo (lo + spl (hi - lo)) (by omega) (by omega) (by omega), ih g i (lo + spl (hi - lo)) hi (by omega) (by omega) h2]
theorem way_old (g : Nat) : ∀ (f lo m i : Nat), m - lo ≤ g → m - lo ≤ f → lo ≤ i → i < m → m ≤ 256 → ∃ U, wayF f i lo m = U ++ wayF f i (pkO g lo m i).1 ((pkO g lo m i).1 + (pkO g lo m i).2) := by
 induction g with
 | zero => intro f lo m i h h0 h1 h2; omega
 | succ g ih =>
  intro f lo m i h hf h1 h2 h3
  obtain ⟨f, rfl⟩ : ∃ q, f = q + 1 := ⟨f - 1, by omega⟩
  have hh := hlf_le (n := m - lo) (by omega)
  simp only [pkO]
  by_cases c0 : lo + hlf (m - lo) = m
  ·rw [if_neg (by omega)]
   exact ⟨[], by show _ = wayF (f + 1) i lo (lo + hlf (m - lo)); rw [c0]⟩
  ·have hs : spl (m - lo) = hlf (m - lo) := by
    obtain ⟨e, e1, e2, e3, _⟩ := spl_is (n := m - lo) (by omega) (by omega)
    rw [e1]
    rcases Nat.lt_or_ge (m - lo) (2 ^ (e + 1)) with c | c
    ·exact (hlf_is (by omega) c).symm
    ·have e4 : m - lo = 2 ^ (e + 1) := by omega
     have e5 : hlf (m - lo) = 2 ^ (e + 1) := hlf_is (by omega) (by rw [Nat.pow_succ 2 (e + 1)]; omega)
     omega
   have e1 : wayF (f + 1) i lo m = (⟨(lo : Int), (m : Int)⟩ : NO) :: (if i < lo + hlf (m - lo) then wayF f i lo (lo + hlf (m - lo)) else wayF f i (lo + hlf (m - lo)) m) := by
    simp only [wayF]
    rw [if_neg (by omega), hs]
   rw [e1]
   by_cases c : lo + hlf (m - lo) ≤ i
   ·rw [if_pos c, if_neg (by omega)]
    obtain ⟨U, hU⟩ := ih f (lo + hlf (m - lo)) m i (by omega) (by omega) c h2 h3
    obtain ⟨e, p1, p2, p3, p4, p5, p6⟩ := pkO_is g (lo + hlf (m - lo)) m i (by omega) c h2 h3
    refine ⟨⟨(lo : Int), (m : Int)⟩ :: U, ?_⟩
    rw [hU, wayF_fuel f (f + 1) i _ _ (by omega) (by omega) (by omega)]
    rfl
   ·rw [if_neg c, if_pos (by omega)]
    refine ⟨[⟨(lo : Int), (m : Int)⟩], ?_⟩
    show _ = [_] ++ wayF (f + 1) i lo (lo + hlf (m - lo))
    rw [wayF_fuel f (f + 1) i _ _ (by omega) (by omega) (by omega)]
    rfl
def liftL (m i : Nat) : Nat := (pkO m 0 m i).2.log2
theorem liftL_is {m i : Nat} (h : i < m) (h2 : m ≤ 256) : (pkO m 0 m i).2 = 2 ^ liftL m i ∧ liftL m i ≤ 8 ∧ liftL m i ≤ (way m i).length := by
 obtain ⟨e, p1, p2, p3, p4, p5, p6⟩ := pkO_is m 0 m i (by omega) (by omega) h h2
 have e1 : liftL m i = e := by unfold liftL; rw [p1, Nat.log2_two_pow]
 obtain ⟨U, hU⟩ := way_old m m 0 m i (by omega) (by omega) (by omega) h h2
 refine ⟨by rw [e1]; exact p1, by rw [e1]; exact p2, ?_⟩
 rw [e1]
 unfold way
 rw [hU, List.length_append, way_pow e m i _ _ (by rw [p1]) p2 p4 p5 (by omega)]
 exact Nat.le_add_left _ _
def lift (m n i : Int) (p P : List SD) : List SD × Bool :=
 if 0 ≤ m ∧ m ≤ n ∧ n ≤ 256 ∧ 0 ≤ i ∧ i < m ∧ (p.length : Int) = pathLen m i ∧ (P.length : Int) = growLen m n then
  if m = n then (p, true) else (p.take (liftL m.toNat i.toNat) ++ aboveF n.toNat 0 n.toNat i.toNat m.toNat (given m.toNat n.toNat P), true)
 else ([], false)
theorem pathLen_in {a b : Int} : pathLen a b < 0 ↔ ¬ (1 ≤ a ∧ a ≤ 256 ∧ 0 ≤ b ∧ b < a) := by
 unfold pathLen
 by_cases c : 1 ≤ a ∧ a ≤ 256 ∧ 0 ≤ b ∧ b < a
 ·rw [if_pos c]
  constructor
  ·intro h; omega
  ·intro h; exact absurd c h
 ·rw [if_neg c]
  exact ⟨fun _ => c, fun _ => by omega⟩
theorem lift_up (over : List SD) (ho : over.length ≤ 1000) (j : Nat) : ∀ (k : Nat) (out : List SD), j ≤ over.length → out.length + j ≤ 5000 → j < k → impl_GrowthLift.l1 k over out ((j : Int) - 1) = some (out ++ (over.take j).reverse, true) := by
 induction j with
 | zero =>
  intro k out _ hl hk
  obtain ⟨k, rfl⟩ : ∃ q, k = q + 1 := ⟨k - 1, by omega⟩
  simp only [impl_GrowthLift.l1]
  rw [if_neg (by omega)]
  refine bsk (copiedD (by omega)) ?_
  simp
 | succ j ih =>
  intro k out hj hl hk
  obtain ⟨k, rfl⟩ : ∃ q, k = q + 1 := ⟨k - 1, by omega⟩
  have hi : j < over.length := by omega
  simp only [impl_GrowthLift.l1]
  rw [show ((j + 1 : Nat) : Int) - 1 = (j : Int) by omega, if_pos (by omega), if_pos (by omega), if_pos (by omega), if_pos (by omega), rdG_nat hi, show wrap64 ((j : Int) - 1) = (j : Int) - 1 by unfold wrap64; omega]
  rw [ih k _ (by omega) (by simp; omega) (by omega), List.take_succ_eq_append_getElem hi, List.reverse_append, List.append_assoc]
  rfl
theorem lift_down (f : Nat) {m n : Nat} (h0 : 0 < m) (hmn : m < n) (h : n ≤ 256) {P : List SD} (hP : P.length = (gnodes m n).length) {i : Nat} (hi : i < m) {p : List SD} (hp : p.length ≤ 1000) : ∀ (k lo hi j : Nat) (acc : List SD), hi - lo ≤ f → lo ≤ i → i < hi → hi ≤ n → Within f lo hi m n → (way n i).drop j = wayF f i lo hi → j ≤ 1000 → acc.length + f ≤ 1000 → 33000 + f < k →
  (way ((pkF f lo hi i m).2 - (pkF f lo hi i m).1) (i - (pkF f lo hi i m).1)).length ≤ p.length → (pkF f lo hi i m).1 ≤ i →
  impl_GrowthLift.l0 k (i : Int) p (putAll (gnodes m n) P []) (way n i) acc (j : Int) (lo : Int) (hi : Int) = some (p.take (way ((pkF f lo hi i m).2 - (pkF f lo hi i m).1) (i - (pkF f lo hi i m).1)).length ++ (aboveF f lo hi i m (given m n P) ++ acc.reverse), true) := by
 induction f with
 | zero => intro k lo hi j acc a b c; omega
 | succ f ih =>
  intro k lo hi j acc a b c d w hw hj ha hk hL hL2
  obtain ⟨k, rfl⟩ : ∃ q, k = q + 1 := ⟨k - 1, by omega⟩
  simp only [impl_GrowthLift.l0]
  refine bsk (look_f (by omega) (by omega)) ?_
  by_cases c1 : hi ≤ m
  ·simp only [pkF] at hL hL2 ⊢
   rw [if_pos c1] at hL hL2 ⊢
   rw [look_given (by omega) h hP (w.here (.inl c1))]
   dsimp only at hL hL2 ⊢
   rw [if_pos rfl, show wrap64 ((hi : Int) - (lo : Int)) = ((hi - lo : Nat) : Int) by unfold wrap64; omega, show wrap64 ((i : Int) - (lo : Int)) = ((i - lo : Nat) : Int) by unfold wrap64; omega]
   refine bsk (impl_way (by omega) (by omega)) ?_
   rw [if_pos (Int.natCast_nonneg _), if_pos (Int.ofNat_le.2 hL), Int.toNat_natCast]
   refine bsk (copiedD (by rw [List.length_take]; omega)) ?_
   rw [show wrap64 ((acc.length : Int) - 1) = (acc.length : Int) - 1 by unfold wrap64; omega]
   rw [lift_up acc (by omega) acc.length k _ (Nat.le_refl _) (by rw [List.length_take]; omega) (by omega), List.take_of_length_le (Nat.le_refl _)]
   simp only [aboveF]
   rw [if_pos c1]
   rfl
  ·rw [look_over (by omega) h P (a := lo) (b := hi) (by omega) (by omega)]
   dsimp only
   have hs := spl_lt (n := hi - lo) (by omega) (by omega)
   simp only [wayF] at hw
   rw [if_neg (by omega)] at hw
   have hjl : j < (way n i).length := by
    rcases Nat.lt_or_ge j (way n i).length with q | q
    ·exact q
    ·rw [List.drop_of_length_le q] at hw
     exact absurd hw (by simp)
   rw [List.drop_eq_getElem_cons hjl] at hw
   obtain ⟨hx, hd⟩ := List.cons.inj hw
   rw [if_neg (by simp), if_pos (by omega), if_pos (by omega), rdK_nat hjl, hx]
   refine bsk (halves (by omega) (by omega) (by omega)) ?_
   dsimp only
   simp only [pkF] at hL hL2 ⊢
   rw [if_neg c1] at hL hL2 ⊢
   simp only [aboveF]
   rw [if_neg c1]
   by_cases c2 : i < lo + spl (hi - lo)
   ·rw [if_pos c2] at hd hL hL2 ⊢
    rw [if_pos c2, if_pos (by omega)]
    refine bsk (impl_digestBy f (by omega) h hP k (lo + spl (hi - lo)) hi (by omega) (by omega) d (w.right c1 (by omega)) (by omega)) ?_
    rw [if_pos (by omega), step64 (by omega)]
    rw [ih k _ _ (j + 1) _ (by omega) b c2 (by omega) (w.left c1 (by omega)) hd (by
     have : (way n i).length ≤ n := wayF_len n i 0 n (by omega)
     omega) (by simp; omega) (by omega) hL hL2]
    rw [List.reverse_append, List.append_assoc (aboveF _ _ _ _ _ _)]
    rfl
   ·rw [if_neg c2] at hd hL hL2 ⊢
    rw [if_neg c2, if_neg (by omega)]
    refine bsk (impl_digestBy f (by omega) h hP k lo (lo + spl (hi - lo)) (by omega) (by omega) (by omega) (w.left c1 (by omega)) (by omega)) ?_
    rw [if_pos (by omega), step64 (by omega)]
    rw [ih k _ _ (j + 1) _ (by omega) (by omega) c d (w.right c1 (by omega)) hd (by
     have : (way n i).length ≤ n := wayF_len n i 0 n (by omega)
     omega) (by simp; omega) (by omega) hL hL2]
    rw [List.reverse_append, List.append_assoc (aboveF _ _ _ _ _ _)]
    rfl
theorem impl_lift {k : Nat} (hk : 60000 < k) (m n i : Int) (p P : List SD) (hp : p.length < 1099511627776) (hm : P.length < 1099511627776) : impl_GrowthLift.f (k + 1) m n i p P = some (lift m n i p P) := by
 unfold impl_GrowthLift.f lift
 have hno : ∀ q, impl_GrowthLift.j0 (q + 1) m n i p P true = some (([] : List SD), false) := fun q => by
  rw [impl_GrowthLift.j0, if_pos rfl]
 refine bsk (mayGrow m n) ?_
 by_cases c : 0 ≤ m ∧ m ≤ n ∧ n ≤ 256
 ·rw [if_pos (by simpa using c)]
  refine bsk (impl_pathLen (by omega) m i) ?_
  by_cases c1 : pathLen m i < 0
  ·rw [if_pos c1, hno, if_neg (by rw [pathLen_in] at c1; omega)]
  ·rw [if_neg c1]
   rw [pathLen_in] at c1
   refine bsk (impl_pathLen (by omega) m i) ?_
   by_cases c2 : (p.length : Int) = pathLen m i
   ·rw [if_pos c2]
    refine bsk (impl_growLen (by omega) m n) ?_
    by_cases c3 : (P.length : Int) = growLen m n
    ·rw [if_pos (by omega), impl_GrowthLift.j0, if_neg (by simp [c3])]
     by_cases c4 : m = n
     ·rw [if_pos c4, if_pos c4]
      have hpl : p.length ≤ 1000000 := by
       have := wayF_len m.toNat i.toNat 0 m.toNat (by omega)
       have e : pathLen m i = ((way m.toNat i.toNat).length : Int) := by unfold pathLen; rw [if_pos (by omega)]
       have : (way m.toNat i.toNat).length ≤ m.toNat := this
       omega
      exact bsk (copiedD hpl) rfl
     ·rw [if_neg c4, if_neg c4]
      obtain ⟨m, rfl⟩ : ∃ q : Nat, m = (q : Int) := ⟨m.toNat, by omega⟩
      obtain ⟨n, rfl⟩ : ∃ q : Nat, n = (q : Int) := ⟨n.toNat, by omega⟩
      obtain ⟨i, rfl⟩ : ∃ q : Nat, i = (q : Int) := ⟨i.toNat, by omega⟩
      have hmn : m < n := by omega
      have him : i < m := by omega
      rw [growLen_in (by omega) hmn (by omega)] at c3
      have hP : P.length = (gnodes m n).length := by omega
      have e : pathLen (m : Int) (i : Int) = ((way m i).length : Int) := by unfold pathLen; rw [if_pos (by omega), Int.toNat_natCast, Int.toNat_natCast]
      have hw : (way m i).length ≤ m := wayF_len m i 0 m (by omega)
      have hpk := pk_is n 0 n i m m (by omega) (by omega) (by omega) him hmn (by omega)
      obtain ⟨l1, l2, l3⟩ := liftL_is him (by omega)
      obtain ⟨q, p1, p2, p3, p4, p5, p6⟩ := pkO_is m 0 m i (by omega) (by omega) him (by omega)
      have hL : (way ((pkF n 0 n i m).2 - (pkF n 0 n i m).1) (i - (pkF n 0 n i m).1)).length = liftL m i := by
       rw [hpk]
       show (way ((pkO m 0 m i).1 + (pkO m 0 m i).2 - (pkO m 0 m i).1) (i - (pkO m 0 m i).1)).length = _
       rw [Nat.add_sub_cancel_left, l1]
       exact way_pow (liftL m i) _ _ 0 _ (by omega) l2 (by omega) (by rw [← l1]; omega) (Nat.le_refl _)
      rw [Int.toNat_natCast, Int.toNat_natCast, Int.toNat_natCast]
      refine bsk (impl_known (by omega) (by omega) (by omega) hP) (bsk (impl_way (by omega) (by omega)) ?_)
      have := lift_down n (by omega) hmn (by omega) hP him (p := p) (by omega) k 0 n 0 [] (by omega) (by omega) (by omega) (Nat.le_refl _) (within_all m n) (List.drop_zero) (by omega) (by simp; omega) (by omega) (by rw [hL]; omega) (by rw [hpk]; exact p4)
      rw [hL] at this
      rw [show ((0 : Nat) : Int) = 0 from rfl] at this
      rw [this]
      simp
    ·rw [show ((P.length : Int) != growLen m n) = true by simpa using c3, hno, if_neg (by omega)]
   ·rw [if_neg c2, hno, if_neg (by omega)]
 ·rw [if_neg (by simpa using c), hno, if_neg (by omega)]
theorem spec_lift {k : Nat} (hk : 60000 < k) (m n i : Int) (p P : List SD) (hp : p.length < 1099511627776) (hm : P.length < 1099511627776) : spec_GrowthLift.f (k + 1) m n i p P = some (lift m n i p P) := by
 unfold spec_GrowthLift.f lift
 simp only [Option.bind_some]
 have hno : ∀ q, spec_GrowthLift.j0 (q + 1) m n i p P [] true = some (([] : List SD), false) := fun q => by
  rw [spec_GrowthLift.j0, if_pos rfl]
 refine bsk (sizesOk m n) ?_
 by_cases c : 0 ≤ m ∧ m ≤ n ∧ n ≤ 256
 ·rw [if_pos (by simpa using c)]
  have hpl : spec_l3Place.f m i = some (decide (1 ≤ m ∧ 0 ≤ i ∧ i < m)) := by
   unfold spec_l3Place.f
   refine bsk spec_in ?_
   by_cases c5 : 1 ≤ m ∧ m ≤ 256
   ·rw [if_pos (by simpa using c5)]
    refine bsk spec_in ?_
    refine congrArg some (decide_eq_decide.2 ?_)
    rw [show wrap64 (m - 1) = m - 1 by unfold wrap64; omega]
    omega
   ·rw [if_neg (by simpa using c5)]
    refine congrArg some (decide_eq_false ?_).symm
    omega
  refine bsk hpl ?_
  by_cases c1 : 1 ≤ m ∧ 0 ≤ i ∧ i < m
  ·rw [if_pos (by simpa using c1)]
   refine bsk (spec_pathLen (by omega) m i) ?_
   have e : pathLen m i = ((way m.toNat i.toNat).length : Int) := by unfold pathLen; rw [if_pos (by omega)]
   have hw : (way m.toNat i.toNat).length ≤ m.toNat := wayF_len m.toNat i.toNat 0 m.toNat (by omega)
   by_cases c2 : (p.length : Int) = pathLen m i
   ·rw [if_pos c2]
    refine bsk (spec_growLen (by omega) m n) ?_
    by_cases c3 : (P.length : Int) = growLen m n
    ·rw [if_pos (by omega), spec_GrowthLift.j0, if_neg (by simp [c3])]
     by_cases c4 : m = n
     ·rw [if_pos c4, if_pos c4]
      refine bsk (spec_digests _ _ (by simp; omega) (by simp; omega)) ?_
      rw [List.append_nil]
     ·rw [if_neg c4, if_neg c4]
      obtain ⟨m, rfl⟩ : ∃ q : Nat, m = (q : Int) := ⟨m.toNat, by omega⟩
      obtain ⟨n, rfl⟩ : ∃ q : Nat, n = (q : Int) := ⟨n.toNat, by omega⟩
      obtain ⟨i, rfl⟩ : ∃ q : Nat, i = (q : Int) := ⟨i.toNat, by omega⟩
      rw [Int.toNat_natCast, Int.toNat_natCast] at hw e
      have hmn : m < n := by omega
      have him : i < m := by omega
      rw [growLen_in (by omega) hmn (by omega)] at c3
      have hP : P.length = (gnodes m n).length := by omega
      obtain ⟨l1, l2, l3⟩ := liftL_is him (by omega)
      have ep := peakOf_l m k 0 m i (by omega) (by omega) him (by omega) (by omega)
      rw [show ((0 : Nat) : Int) = 0 from rfl, l1] at ep
      have ed := depth_l (liftL m i) k 0 l2 (by omega) (by omega)
      rw [Nat.zero_add] at ed
      have ea := spec_above n (by omega) hmn (by omega) hP k 0 n i (by omega) (by omega) (by omega) (by omega) him (Nat.le_refl _) (within_all m n) (by omega)
      rw [Int.toNat_natCast, Int.toNat_natCast, Int.toNat_natCast]
      have la := aboveF_len n 0 n i m (given m n P)
      refine bsk ep (bsk ed ?_)
      rw [if_pos (Int.natCast_nonneg _), if_pos (by omega), Int.toNat_natCast]
      refine bsk ea (bsk (spec_digests _ _ (by rw [List.length_take]; omega) (by rw [List.length_take]; omega)) rfl)
    ·rw [show ((P.length : Int) != growLen m n) = true by simpa using c3, hno, if_neg (by omega)]
   ·rw [if_neg c2, hno, if_neg (by omega)]
  ·rw [if_neg (by simpa using c1), hno, if_neg (by omega)]
 ·rw [if_neg (by simpa using c), hno, if_neg (by omega)]
theorem lift_len (m n i : Int) (p P : List SD) : (lift m n i p P).1.length ≤ 600 := by
 unfold lift
 by_cases c : 0 ≤ m ∧ m ≤ n ∧ n ≤ 256 ∧ 0 ≤ i ∧ i < m ∧ (p.length : Int) = pathLen m i ∧ (P.length : Int) = growLen m n
 ·rw [if_pos c]
  have e : pathLen m i = ((way m.toNat i.toNat).length : Int) := by unfold pathLen; rw [if_pos (by omega)]
  have hw : (way m.toNat i.toNat).length ≤ m.toNat := wayF_len m.toNat i.toNat 0 m.toNat (by omega)
  have la := aboveF_len n.toNat 0 n.toNat i.toNat m.toNat (given m.toNat n.toNat P)
  by_cases c4 : m = n
  ·rw [if_pos c4]; show p.length ≤ 600; omega
  ·rw [if_neg c4]
   show (p.take _ ++ _).length ≤ 600
   rw [List.length_append, List.length_take]
   omega
 ·rw [if_neg c]; simp
theorem bsu {α β : Type} {x : Option α} {v : α} {F : α → Option β} {r : Option β} (h : x = some v) (k : F v = r) : x.bind F = r := by rw [h]; exact k
abbrev PP := S128
def d4u (d : SD) : D4 := (d.f0, d.f1, d.f2, d.f3)
def sdu (d : D4) : SD := ⟨d.1, d.2.1, d.2.2.1, d.2.2.2⟩
def both (i : Nat) (x : NO) (p : SD) (now : D4) : PP := if i < x.f0.toNat + spl (x.f1.toNat - x.f0.toNat) then ⟨sdu now, p⟩ else ⟨p, sdu now⟩
def pairRoot (b : PP) : D4 := hashPair (d4u b.f0) (d4u b.f1)
def pairsL (i : Nat) : List NO → List SD → D4 → List PP
 | x :: xs, p :: ps, now => both i x p now :: pairsL i xs ps (pairRoot (both i x p now))
 | _, _, _ => []
def upL (i : Nat) : List NO → List SD → D4 → D4
 | x :: xs, p :: ps, now => upL i xs ps (pairRoot (both i x p now))
 | _, _, now => now
theorem pairsL_len (i : Nat) (xs : List NO) : ∀ (ps : List SD) (now : D4), xs.length = ps.length → (pairsL i xs ps now).length = ps.length := by
 induction xs with
 | nil => intro ps now h; cases ps with | nil => rfl | cons => simp at h
 | cons x xs ih =>
  intro ps now h
  cases ps with
  | nil => simp at h
  | cons p ps => simp only [pairsL, List.length_cons]; rw [ih ps _ (by simpa using h)]
theorem upL_snoc (i : Nat) (x : NO) (p : SD) (xs : List NO) : ∀ (ps : List SD) (now : D4), xs.length = ps.length → upL i (xs ++ [x]) (ps ++ [p]) now = pairRoot (both i x p (upL i xs ps now)) := by
 induction xs with
 | nil => intro ps now h; cases ps with | nil => rfl | cons => simp at h
 | cons y xs ih =>
  intro ps now h
  cases ps with
  | nil => simp at h
  | cons q ps => simp only [List.cons_append, upL]; exact ih ps _ (by simpa using h)
theorem pairsL_snoc (i : Nat) (x : NO) (p : SD) (xs : List NO) : ∀ (ps : List SD) (now : D4), xs.length = ps.length → pairsL i (xs ++ [x]) (ps ++ [p]) now = pairsL i xs ps now ++ [both i x p (upL i xs ps now)] := by
 induction xs with
 | nil => intro ps now h; cases ps with | nil => rfl | cons => simp at h
 | cons y xs ih =>
  intro ps now h
  cases ps with
  | nil => simp at h
  | cons q ps =>
   simp only [List.cons_append, pairsL, upL]
   rw [ih ps _ (by simpa using h)]
theorem rdU_nat {l : List SD} {i : Nat} (h : i < l.length) : rd_T29 l (i : Int) = l[i] := by simp [rd_T29, List.getD, List.getElem?_eq_getElem h]
theorem rdV_nat {l : List NO} {i : Nat} (h : i < l.length) : rd_T100 l (i : Int) = l[i] := by simp [rd_T100, List.getD, List.getElem?_eq_getElem h]
theorem rdP_nat {l : List PP} {i : Nat} (h : i < l.length) : rd_T128 l (i : Int) = l[i] := by simp [rd_T128, List.getD, List.getElem?_eq_getElem h]
theorem way_fitU (f : Nat) : ∀ (i lo hi : Nat), hi - lo ≤ f → lo ≤ hi → hi ≤ 256 → ∀ x ∈ wayF f i lo hi, ∃ a b : Nat, x = ⟨(a : Int), (b : Int)⟩ ∧ lo ≤ a ∧ a + 2 ≤ b ∧ b ≤ hi := by
 induction f with
 | zero => intro i lo hi _ _ _ x hx; simp [wayF] at hx
 | succ f ih =>
  intro i lo hi h h0 h1 x hx
  simp only [wayF] at hx
  by_cases c : hi - lo ≤ 1
  ·rw [if_pos c] at hx; simp at hx
  ·rw [if_neg c] at hx
   have hs := spl_lt (n := hi - lo) (by omega) (by omega)
   rcases List.mem_cons.1 hx with rfl | hx
   ·exact ⟨lo, hi, rfl, by omega, by omega, by omega⟩
   ·by_cases c2 : i < lo + spl (hi - lo)
    ·rw [if_pos c2] at hx
     obtain ⟨a, b, e, h3, h4, h5⟩ := ih _ _ _ (by omega) (by omega) (by omega) x hx
     exact ⟨a, b, e, h3, h4, by omega⟩
    ·rw [if_neg c2] at hx
     obtain ⟨a, b, e, h3, h4, h5⟩ := ih _ _ _ (by omega) (by omega) (by omega) x hx
     exact ⟨a, b, e, by omega, h4, h5⟩
theorem pairs_l (i : Nat) (xs : List NO) (P : List SD) (hx : ∀ x ∈ xs, ∃ a b : Nat, x = ⟨(a : Int), (b : Int)⟩ ∧ a + 2 ≤ b ∧ b ≤ 256) (hP : P.length = xs.length) (hn : xs.length ≤ 1000) (n : Nat) : ∀ (k j : Nat) (acc : List PP) (now : D4), xs.length = j + n → 40000 + n < k → acc.length + n ≤ 2000 →
  impl_pathPairs.l0 k (i : Int) xs acc P (P.length : Int) (j : Int) now.1 now.2.1 now.2.2.1 now.2.2.2 = some (acc ++ pairsL i ((xs.take n).reverse) (P.drop j) now) := by
 induction n with
 | zero =>
  intro k j acc now hj hk ha
  obtain ⟨k, rfl⟩ : ∃ m, k = m + 1 := ⟨k - 1, by omega⟩
  simp only [impl_pathPairs.l0]
  rw [if_neg (by omega), List.drop_of_length_le (by omega)]
  simp [pairsL]
 | succ n ih =>
  intro k j acc now hj hk ha
  obtain ⟨k, rfl⟩ : ∃ m, k = m + 1 := ⟨k - 1, by omega⟩
  have hj1 : j < P.length := by omega
  have hn1 : n < xs.length := by omega
  obtain ⟨a, b, e, h2, h3⟩ := hx _ (List.getElem_mem hn1)
  have ew : wrap64 ((wrap64 ((xs.length : Int) - 1)) - (j : Int)) = (n : Int) := by unfold wrap64; omega
  simp only [impl_pathPairs.l0]
  rw [ew, if_pos (by omega), if_pos (by omega), if_pos (by omega), if_pos (by omega), if_pos (by omega), rdV_nat hn1, rdU_nat hj1]
  rw [List.take_succ_eq_append_getElem hn1, List.reverse_append, List.reverse_singleton, List.singleton_append, List.drop_eq_getElem_cons hj1]
  simp only [pairsL]
  generalize xs[n] = x at e ⊢
  generalize P[j] = p
  subst e
  have hs := spl_lt (n := b - a) (by omega) (by omega)
  refine bsu (halves (by omega) h2 h3) ?_
  show (if (i : Int) < ((a + spl (b - a) : Nat) : Int) then _ else _) = _
  by_cases c : i < a + spl (b - a)
  ·have eb : both i ⟨(a : Int), (b : Int)⟩ p now = ⟨sdu now, p⟩ := by
    unfold both
    rw [if_pos (by simpa using c)]
   rw [if_pos (by omega), if_pos (by omega)]
   refine bsu (impl_pair (by omega) _ _ _ _ _ _ _ _) ?_
   have := ih k (j + 1) (acc ++ [both i ⟨(a : Int), (b : Int)⟩ p now]) (pairRoot (both i ⟨(a : Int), (b : Int)⟩ p now)) (by omega) (by omega) (by simp; omega)
   rw [step64 (by omega)]
   rw [List.append_assoc, List.singleton_append] at this
   rw [← this, eb]
   rfl
  ·have eb : both i ⟨(a : Int), (b : Int)⟩ p now = ⟨p, sdu now⟩ := by
    unfold both
    rw [if_neg (by simpa using c)]
   rw [if_neg (by omega), if_pos (by omega)]
   refine bsu (impl_pair (by omega) _ _ _ _ _ _ _ _) ?_
   have := ih k (j + 1) (acc ++ [both i ⟨(a : Int), (b : Int)⟩ p now]) (pairRoot (both i ⟨(a : Int), (b : Int)⟩ p now)) (by omega) (by omega) (by simp; omega)
   rw [step64 (by omega)]
   rw [List.append_assoc, List.singleton_append] at this
   rw [← this, eb]
   rfl
theorem impl_pairs {k n i : Nat} (hk : 50000 < k) (h : n ≤ 256) {s : ByteArray} (hs : s.size ≤ 4611686018427387904) {P : List SD} (hP : P.length = (way n i).length) :
  impl_pathPairs.f k (n : Int) (i : Int) s P = some (pairsL i (way n i).reverse P (hashLeaf s)) := by
 unfold impl_pathPairs.f
 refine bsu (impl_way (by omega) h) (bsu (impl_leaf (by omega) hs) ?_)
 have hw : (way n i).length ≤ n := wayF_len n i 0 n (by omega)
 have := pairs_l i (way n i) P (fun x hx => by
  obtain ⟨a, b, e, _, h3, h4⟩ := way_fitU n i 0 n (by omega) (by omega) h x hx
  exact ⟨a, b, e, h3, by omega⟩) hP (by omega) (way n i).length k 0 [] (hashLeaf s) (by omega) (by omega) (by simp; omega)
 rw [List.take_of_length_le (Nat.le_refl _), List.drop_zero] at this
 simpa using this
theorem up_l (f : Nat) : ∀ (k i lo hi : Nat) (d : D4) (P : List SD), hi - lo ≤ f → lo ≤ i → i < hi → hi ≤ 256 → P.length = (wayF f i lo hi).length → 40000 + f < k →
  spec_l3Up.f k ((hi - lo : Nat) : Int) ((i - lo : Nat) : Int) d.1 d.2.1 d.2.2.1 d.2.2.2 P = some (upL i (wayF f i lo hi).reverse P d) := by
 induction f with
 | zero => intro k i lo hi d P h h0 h1; omega
 | succ f ih =>
  intro k i lo hi d P h h0 h1 h2 hP hk
  obtain ⟨k, rfl⟩ : ∃ m, k = m + 1 := ⟨k - 1, by omega⟩
  simp only [spec_l3Up.f]
  simp only [wayF] at hP ⊢
  by_cases c : hi - lo ≤ 1
  ·rw [if_pos (by omega), if_pos c]
   rw [if_pos c] at hP
   cases P with
   | nil => rfl
   | cons => simp at hP
  ·rw [if_neg (by omega), if_neg c]
   rw [if_neg c] at hP
   have hs := spl_lt (n := hi - lo) (by omega) (by omega)
   simp only [List.length_cons] at hP
   have hp1 : P.length - 1 < P.length := by omega
   have hPP : P = P.take (P.length - 1) ++ [P[P.length - 1]] := by
    rw [← List.take_succ_eq_append_getElem hp1, show P.length - 1 + 1 = P.length by omega, List.take_length]
   have hwl : ∀ lo hi, (wayF f i lo hi).length ≤ f := fun lo hi => wayF_len.wayF_len' f i lo hi
   have hPl : P.length ≤ 1000000 ∨ 1000000 < P.length := by omega
   have hsmall : P.length < 9223372036854775807 := by
    have e1 := hwl lo (lo + spl (hi - lo))
    have e2 := hwl (lo + spl (hi - lo)) hi
    by_cases c3 : i < lo + spl (hi - lo)
    ·rw [if_pos c3] at hP
     have := wayF_len f i lo (lo + spl (hi - lo)) (by omega)
     have := way_short f i lo (lo + spl (hi - lo)) (by omega)
     omega
    ·rw [if_neg c3] at hP
     have := way_short f i (lo + spl (hi - lo)) hi (by omega)
     omega
   refine bsu (spec_split (by omega) (by omega) (by omega)) ?_
   rw [show wrap64 ((P.length : Int) - 1) = ((P.length - 1 : Nat) : Int) by unfold wrap64; omega, if_pos (by omega), if_pos (by omega), if_pos (by omega), Int.toNat_natCast, rdU_nat hp1]
   simp only [Option.bind_some]
   generalize hq : P[P.length - 1] = p at *
   have hlt : (P.take (P.length - 1)).length = P.length - 1 := by rw [List.length_take]; omega
   generalize hr : P.take (P.length - 1) = R at *
   rw [List.reverse_cons, hPP, upL_snoc _ _ _ _ _ _ (by rw [List.length_reverse]; omega)]
   by_cases c2 : i < lo + spl (hi - lo)
   ·rw [if_pos (by omega), if_pos c2]
    rw [if_pos c2] at hP
    have e := ih k i lo (lo + spl (hi - lo)) d R (by omega) h0 c2 (by omega) (by omega) (by omega)
    rw [show lo + spl (hi - lo) - lo = spl (hi - lo) by omega] at e
    refine bsu e (bsu (spec_pair (by omega) _ _ _ _ _ _ _ _) ?_)
    refine congrArg some ?_
    have eb : ∀ now, both i ⟨(lo : Int), (hi : Int)⟩ p now = ⟨sdu now, p⟩ := fun now => by
     unfold both
     rw [if_pos (by simpa using c2)]
    rw [eb]
    rfl
   ·rw [if_neg (by omega), if_neg c2]
    rw [if_neg c2] at hP
    rw [show wrap64 (((hi - lo : Nat) : Int) - ((spl (hi - lo) : Nat) : Int)) = ((hi - (lo + spl (hi - lo)) : Nat) : Int) by unfold wrap64; omega, show wrap64 (((i - lo : Nat) : Int) - ((spl (hi - lo) : Nat) : Int)) = ((i - (lo + spl (hi - lo)) : Nat) : Int) by unfold wrap64; omega]
    have e := ih k i (lo + spl (hi - lo)) hi d R (by omega) (by omega) h1 (by omega) (by omega) (by omega)
    refine bsu e (bsu (spec_pair (by omega) _ _ _ _ _ _ _ _) ?_)
    refine congrArg some ?_
    have eb : ∀ now, both i ⟨(lo : Int), (hi : Int)⟩ p now = ⟨p, sdu now⟩ := fun now => by
     unfold both
     rw [if_neg (by simpa using c2)]
    rw [eb]
    rfl
where
 way_short : ∀ (f i lo hi : Nat), hi ≤ 256 → (wayF f i lo hi).length ≤ hi - lo
  | 0, _, _, _, _ => by simp [wayF]
  | f + 1, i, lo, hi, h => by
   simp only [wayF]
   by_cases c : hi - lo ≤ 1
   ·rw [if_pos c]; simp
   ·rw [if_neg c]
    have hs := spl_lt (n := hi - lo) (by omega) (by omega)
    split <;> simp only [List.length_cons]
    ·have := way_short f i lo (lo + spl (hi - lo)) (by omega); omega
    ·have := way_short f i (lo + spl (hi - lo)) hi h; omega
def pathFits (n i : Int) (s : ByteArray) (P : List SD) : Bool := decide (1 ≤ n ∧ n ≤ 256 ∧ 0 ≤ i ∧ i < n ∧ s.size ≤ 40 ∧ P.length = (way n.toNat i.toNat).length)
def pathRoot (n i : Int) (s : ByteArray) (P : List SD) : D4 × Bool := if pathFits n i s P = true then (upL i.toNat (way n.toNat i.toNat).reverse P (hashLeaf s), true) else ((0, 0, 0, 0), false)
theorem impl_pathOk {k : Nat} (hk : 300 ≤ k) (n i : Int) (s : ByteArray) (P : List SD) : impl_pathOk.f k n i s P = some (pathFits n i s P) := by
 unfold impl_pathOk.f pathFits
 refine bsu (impl_pathLen hk n i) ?_
 unfold pathLen
 by_cases c : 1 ≤ n ∧ n ≤ 256 ∧ 0 ≤ i ∧ i < n
 ·rw [if_pos c, if_pos (by omega)]
  by_cases c2 : (s.size : Int) ≤ 40
  ·rw [if_pos c2]
   refine congrArg some ?_
   rw [Bool.eq_iff_iff]
   simp only [beq_iff_eq, decide_eq_true_eq]
   omega
  ·rw [if_neg c2]
   refine congrArg some ?_
   exact (decide_eq_false (by omega)).symm
 ·rw [if_neg c, if_neg (by omega)]
  refine congrArg some ?_
  exact (decide_eq_false (by omega)).symm
theorem fits_is {n i : Int} {s : ByteArray} {P : List SD} (h : pathFits n i s P = true) : ∃ a b : Nat, n = (a : Int) ∧ i = (b : Int) ∧ 1 ≤ a ∧ a ≤ 256 ∧ b < a ∧ s.size ≤ 40 ∧ P.length = (way a b).length := by
 simp only [pathFits, decide_eq_true_eq] at h
 exact ⟨n.toNat, i.toNat, by omega, by omega, by omega, by omega, by omega, h.2.2.2.2.1, h.2.2.2.2.2⟩
theorem impl_pathRoot {k : Nat} (hk : 60000 < k) (n i : Int) (s : ByteArray) (P : List SD) (hm : P.length < 1099511627776) : impl_PathRoot.f k n i s P = some ((pathRoot n i s P).1.1, (pathRoot n i s P).1.2.1, (pathRoot n i s P).1.2.2.1, (pathRoot n i s P).1.2.2.2, (pathRoot n i s P).2) := by
 unfold impl_PathRoot.f pathRoot
 refine bsu (impl_pathOk (by omega) n i s P) ?_
 by_cases c : pathFits n i s P = true
 ·rw [if_pos c, if_pos c]
  obtain ⟨a, b, rfl, rfl, h1, h2, h3, h4, h5⟩ := fits_is c
  rw [Int.toNat_natCast, Int.toNat_natCast]
  by_cases c0 : (P.length : Int) = 0
  ·rw [if_pos c0]
   refine bsu (impl_leaf (by omega) (by omega)) ?_
   obtain rfl : P = [] := List.eq_nil_of_length_eq_zero (by omega)
   have e : (way a b).reverse = [] := List.eq_nil_of_length_eq_zero (by rw [List.length_reverse]; simpa using h5.symm)
   rw [e]
   rfl
  ·rw [if_neg c0]
   refine bsu (impl_pairs (by omega) h2 (by omega) h5) ?_
   have hl := pairsL_len b (way a b).reverse P (hashLeaf s) (by rw [List.length_reverse]; exact h5.symm)
   rw [show wrap64 ((P.length : Int) - 1) = ((P.length - 1 : Nat) : Int) by unfold wrap64; omega, if_pos (by omega), if_pos (by omega), rdP_nat (by omega)]
   refine bsu (impl_pair (by omega) _ _ _ _ _ _ _ _) ?_
   have hp1 : P.length - 1 < P.length := by omega
   have hw1 : (way a b).reverse.length - 1 < (way a b).reverse.length := by rw [List.length_reverse]; omega
   have e1 : P = P.take (P.length - 1) ++ [P[P.length - 1]] := by
    rw [← List.take_succ_eq_append_getElem hp1, show P.length - 1 + 1 = P.length by omega, List.take_length]
   have e2 : (way a b).reverse = (way a b).reverse.take ((way a b).reverse.length - 1) ++ [(way a b).reverse[(way a b).reverse.length - 1]] := by
    rw [← List.take_succ_eq_append_getElem hw1, show (way a b).reverse.length - 1 + 1 = (way a b).reverse.length by omega, List.take_length]
   have hlast : ∀ (M : List PP) (hM : P.length - 1 < M.length), M = pairsL b (way a b).reverse P (hashLeaf s) → pairRoot M[P.length - 1] = upL b (way a b).reverse P (hashLeaf s) := by
    intro M hM hMe
    have hll : ((way a b).reverse.take ((way a b).reverse.length - 1)).length = (P.take (P.length - 1)).length := by
     rw [List.length_take, List.length_take, List.length_reverse]
     omega
    have e3 := pairsL_snoc b (way a b).reverse[(way a b).reverse.length - 1] P[P.length - 1] ((way a b).reverse.take ((way a b).reverse.length - 1)) (P.take (P.length - 1)) (hashLeaf s) hll
    have e4 := upL_snoc b (way a b).reverse[(way a b).reverse.length - 1] P[P.length - 1] ((way a b).reverse.take ((way a b).reverse.length - 1)) (P.take (P.length - 1)) (hashLeaf s) hll
    rw [← e1, ← e2] at e3 e4
    rw [e4]
    have e5 : M[P.length - 1] = both b (way a b).reverse[(way a b).reverse.length - 1] P[P.length - 1] (upL b ((way a b).reverse.take ((way a b).reverse.length - 1)) (P.take (P.length - 1)) (hashLeaf s)) := by
     have e6 : M[P.length - 1]? = some (both b (way a b).reverse[(way a b).reverse.length - 1] P[P.length - 1] (upL b ((way a b).reverse.take ((way a b).reverse.length - 1)) (P.take (P.length - 1)) (hashLeaf s))) := by
      rw [hMe, e3]
      have e7 := pairsL_len b ((way a b).reverse.take ((way a b).reverse.length - 1)) (P.take (P.length - 1)) (hashLeaf s) hll
      have e8 : (pairsL b ((way a b).reverse.take ((way a b).reverse.length - 1)) (P.take (P.length - 1)) (hashLeaf s)).length = P.length - 1 := by rw [e7, List.length_take]; omega
      rw [List.getElem?_append_right (by rw [e8]; exact Nat.le_refl _), e8, Nat.sub_self]
      rfl
     rw [List.getElem?_eq_getElem hM] at e6
     exact Option.some.inj e6
    rw [e5]
   have := hlast _ (by omega) rfl
   rw [← this]
   rfl
 ·rw [if_neg c, if_neg c]
theorem spec_pathRoot {k : Nat} (hk : 60000 < k) (n i : Int) (s : ByteArray) (P : List SD) (hm : P.length < 1099511627776) : spec_PathRoot.f (k + 1) n i s P = some ((pathRoot n i s P).1.1, (pathRoot n i s P).1.2.1, (pathRoot n i s P).1.2.2.1, (pathRoot n i s P).1.2.2.2, (pathRoot n i s P).2) := by
 unfold spec_PathRoot.f pathRoot
 have hno : ∀ q, ¬ pathFits n i s P = true → spec_PathRoot.j0 (q + 1) n i s P true = some ((0 : Int), (0 : Int), (0 : Int), (0 : Int), false) := fun q _ => by simp [spec_PathRoot.j0]
 unfold spec_l3Place.f
 rw [spec_in]
 simp only [Option.bind_some]
 by_cases c : 1 ≤ n ∧ n ≤ 256
 ·rw [if_pos (by simpa using c), spec_in]
  simp only [Option.bind_some]
  rw [show wrap64 (n - 1) = n - 1 by unfold wrap64; omega]
  by_cases c2 : 0 ≤ i ∧ i < n
  ·rw [if_pos (by simp; omega)]
   by_cases c3 : (s.size : Int) > 40
   ·have hf : ¬ pathFits n i s P = true := by simp only [pathFits, decide_eq_true_eq]; omega
    rw [if_pos c3, hno k hf, if_neg hf]
   ·rw [if_neg c3]
    refine bsu (spec_pathLen (by omega) n i) ?_
    unfold pathLen
    rw [if_pos ⟨c.1, c.2, c2.1, c2.2⟩]
    by_cases c4 : P.length = (way n.toNat i.toNat).length
    ·have hf : pathFits n i s P = true := by simp only [pathFits, decide_eq_true_eq]; omega
     obtain ⟨a, b, rfl, rfl, h1, h2, h3, h4, h5⟩ := fits_is hf
     rw [if_pos hf, show ((P.length : Int) != (((way ((a : Int)).toNat ((b : Int)).toNat).length : Nat) : Int)) = false by rw [c4]; exact bne_self_eq_false _]
     simp only [spec_PathRoot.j0]
     rw [if_neg (by simp), Int.toNat_natCast, Int.toNat_natCast]
     refine bsu (spec_leaf (by omega) (by omega)) ?_
     have := up_l a k b 0 a (hashLeaf s) P (by omega) (by omega) h3 (by omega) h5 (by omega)
     refine bsu this ?_
     rfl
    ·have hf : ¬ pathFits n i s P = true := by simp only [pathFits, decide_eq_true_eq]; omega
     rw [if_neg hf, show ((P.length : Int) != (((way n.toNat i.toNat).length : Nat) : Int)) = true by simpa using fun hh => c4 (by omega), hno k hf]
  ·have hf : ¬ pathFits n i s P = true := by simp only [pathFits, decide_eq_true_eq]; omega
   rw [if_neg (by simp; omega), hno k hf, if_neg hf]
 ·have hf : ¬ pathFits n i s P = true := by simp only [pathFits, decide_eq_true_eq]; omega
  rw [if_neg (by simpa using c)]
  rw [if_neg hf]
  simp
  exact hno k hf
theorem spec_pathRoot' {k : Nat} (hk : 60001 < k) (n i : Int) (s : ByteArray) (P : List SD) (hm : P.length < 1099511627776) : spec_PathRoot.f k n i s P = some ((pathRoot n i s P).1.1, (pathRoot n i s P).1.2.1, (pathRoot n i s P).1.2.2.1, (pathRoot n i s P).1.2.2.2, (pathRoot n i s P).2) := by
 obtain ⟨k, rfl⟩ : ∃ q, k = q + 1 := ⟨k - 1, by omega⟩
 exact spec_pathRoot (by omega) n i s P hm
theorem copiedS {l : List ByteArray} (h : l.length ≤ 1000000) : impl_copied_string.f l = some l := by
 unfold impl_copied_string.f
 rw [if_pos (by omega)]
def pairT (b : PP) : ByteArray := pairText (d4u b.f0) (d4u b.f1)
def rowL (i : Nat) (xs : List NO) (ps : List SD) (s : ByteArray) : List ByteArray := ((pairsL i xs ps (hashLeaf s)).reverse.map pairT) ++ [leafText s]
theorem implRow_l (s : ByteArray) (hs : s.size ≤ 4611686018427387904) (M : List PP) (hM : M.length ≤ 1000) (j : Nat) : ∀ (k : Nat) (acc : List ByteArray), j ≤ M.length → 100 + j < k → acc.length + j ≤ 2000 →
  impl_ClashRow.l0 k s M acc ((j : Int) - 1) = some (acc ++ ((M.take j).reverse.map pairT) ++ [leafText s], true) := by
 induction j with
 | zero =>
  intro k acc _ hk ha
  obtain ⟨k, rfl⟩ : ∃ m, k = m + 1 := ⟨k - 1, by omega⟩
  simp only [impl_ClashRow.l0]
  rw [if_neg (by omega)]
  refine bsu (impl_leafText hs) ?_
  rw [if_pos (by omega)]
  refine bsu (copiedS (by simp; omega)) ?_
  simp
 | succ j ih =>
  intro k acc hj hk ha
  obtain ⟨k, rfl⟩ : ∃ m, k = m + 1 := ⟨k - 1, by omega⟩
  have hi : j < M.length := by omega
  simp only [impl_ClashRow.l0]
  rw [show ((j + 1 : Nat) : Int) - 1 = (j : Int) by omega, if_pos (by omega), if_pos (by omega), if_pos (by omega), rdP_nat hi]
  refine bsu (impl_pairText (by omega) _ _ _ _ _ _ _ _) ?_
  rw [if_pos (by omega), show wrap64 ((j : Int) - 1) = (j : Int) - 1 by unfold wrap64; omega, ih k _ (by omega) (by omega) (by simp; omega)]
  rw [List.take_succ_eq_append_getElem hi, List.reverse_append, List.reverse_singleton, List.singleton_append, List.map_cons]
  refine congrArg some (Prod.ext ?_ rfl)
  simp [pairT, d4u]
theorem behind_l (n : Nat) : ∀ (k : Nat) (l acc : List ByteArray) (i : Nat), l.length = i + n → n < k → l.length ≤ 100000 → acc.length + n ≤ 200000 → spec_l4Behind.l0 k l acc (i : Int) = some (acc ++ l.drop i) := by
 induction n with
 | zero =>
  intro k l acc i hl hk hm ha
  obtain ⟨k, rfl⟩ : ∃ m, k = m + 1 := ⟨k - 1, by omega⟩
  simp only [spec_l4Behind.l0]
  rw [if_neg (by omega), List.drop_of_length_le (by omega), List.append_nil]
 | succ n ih =>
  intro k l acc i hl hk hm ha
  obtain ⟨k, rfl⟩ : ∃ m, k = m + 1 := ⟨k - 1, by omega⟩
  have hi : i < l.length := by omega
  simp only [spec_l4Behind.l0]
  rw [if_pos (by omega), if_pos (by omega), if_pos (by omega), rdOf_nat hi, step64 (by omega), ih k l _ (i + 1) (by omega) (by omega) hm (by simp; omega), List.drop_eq_getElem_cons hi, List.append_assoc]
  rfl
theorem spec_behind {k : Nat} (s : ByteArray) (l : List ByteArray) (hk : l.length < k) (h : l.length ≤ 100000) : spec_l4Behind.f k s l = some (s :: l) := by
 unfold spec_l4Behind.f
 have := behind_l l.length k l [s] 0 (by omega) hk h (by simp; omega)
 simpa using this
theorem rowL_len (i : Nat) (xs : List NO) (ps : List SD) (s : ByteArray) (h : xs.length = ps.length) : (rowL i xs ps s).length = ps.length + 1 := by
 simp [rowL, pairsL_len i xs ps _ h]
theorem down_l (s : ByteArray) (hs : s.size ≤ 4611686018427387904) (f : Nat) : ∀ (k i lo hi : Nat) (P : List SD), hi - lo ≤ f → lo ≤ i → i < hi → hi ≤ 256 → P.length = (wayF f i lo hi).length → 50000 + f < k →
  spec_l4Down.f k ((hi - lo : Nat) : Int) ((i - lo : Nat) : Int) s P = some (rowL i (wayF f i lo hi).reverse P s) := by
 induction f with
 | zero => intro k i lo hi P h h0 h1; omega
 | succ f ih =>
  intro k i lo hi P h h0 h1 h2 hP hk
  obtain ⟨k, rfl⟩ : ∃ m, k = m + 1 := ⟨k - 1, by omega⟩
  have hshort := up_l.way_short (f + 1) i lo hi h2
  simp only [spec_l4Down.f]
  simp only [wayF] at hP hshort ⊢
  by_cases c : hi - lo ≤ 1
  ·rw [if_pos (by omega), if_pos c]
   rw [if_pos c] at hP
   refine bsu (spec_leafText hs) ?_
   cases P with
   | nil => rfl
   | cons => simp at hP
  ·rw [if_neg (by omega), if_neg c]
   rw [if_neg c] at hP hshort
   have hsp := spl_lt (n := hi - lo) (by omega) (by omega)
   rw [← hP] at hshort
   simp only [List.length_cons] at hP
   have hp1 : P.length - 1 < P.length := by omega
   have hPP : P = P.take (P.length - 1) ++ [P[P.length - 1]] := by
    rw [← List.take_succ_eq_append_getElem hp1, show P.length - 1 + 1 = P.length by omega, List.take_length]
   refine bsu (spec_split (by omega) (by omega) (by omega)) ?_
   rw [show wrap64 ((P.length : Int) - 1) = ((P.length - 1 : Nat) : Int) by unfold wrap64; omega, if_pos (by omega), if_pos (by omega), if_pos (by omega), Int.toNat_natCast, rdU_nat hp1]
   simp only [Option.bind_some]
   generalize hq : P[P.length - 1] = p at *
   have hlt : (P.take (P.length - 1)).length = P.length - 1 := by rw [List.length_take]; omega
   generalize hr : P.take (P.length - 1) = R at *
   have hsn : ∀ W : List NO, W.length = R.length → ∀ x, rowL i (W.reverse ++ [x]) (R ++ [p]) s = pairT (both i x p (upL i W.reverse R (hashLeaf s))) :: rowL i W.reverse R s := by
    intro W hW x
    unfold rowL
    rw [pairsL_snoc _ _ _ _ _ _ (by rw [List.length_reverse]; exact hW), List.reverse_append, List.reverse_singleton, List.singleton_append, List.map_cons, List.cons_append]
   rw [List.reverse_cons, hPP]
   by_cases c2 : i < lo + spl (hi - lo)
   ·rw [if_pos (by omega), if_pos c2]
    rw [if_pos c2] at hP
    rw [hsn _ (by omega)]
    have e := up_l f k i lo (lo + spl (hi - lo)) (hashLeaf s) R (by omega) h0 c2 (by omega) (by omega) (by omega)
    have e2 := ih k i lo (lo + spl (hi - lo)) R (by omega) h0 c2 (by omega) (by omega) (by omega)
    rw [show lo + spl (hi - lo) - lo = spl (hi - lo) by omega] at e e2
    refine bsu (spec_leaf (by omega) hs) (bsu e (bsu (spec_pairText (by omega) _ _ _ _ _ _ _ _) (bsu e2 ?_)))
    have hl := rowL_len i (wayF f i lo (lo + spl (hi - lo))).reverse R s (by rw [List.length_reverse]; omega)
    refine bsu (spec_behind _ _ (by omega) (by omega)) ?_
    refine congrArg some ?_
    have eb : ∀ now, both i ⟨(lo : Int), (hi : Int)⟩ p now = ⟨sdu now, p⟩ := fun now => by
     unfold both
     rw [if_pos (by simpa using c2)]
    rw [eb]
    rfl
   ·rw [if_neg (by omega), if_neg c2]
    rw [if_neg c2] at hP
    rw [hsn _ (by omega)]
    rw [show wrap64 (((hi - lo : Nat) : Int) - ((spl (hi - lo) : Nat) : Int)) = ((hi - (lo + spl (hi - lo)) : Nat) : Int) by unfold wrap64; omega, show wrap64 (((i - lo : Nat) : Int) - ((spl (hi - lo) : Nat) : Int)) = ((i - (lo + spl (hi - lo)) : Nat) : Int) by unfold wrap64; omega]
    have e := up_l f k i (lo + spl (hi - lo)) hi (hashLeaf s) R (by omega) (by omega) h1 (by omega) (by omega) (by omega)
    have e2 := ih k i (lo + spl (hi - lo)) hi R (by omega) (by omega) h1 (by omega) (by omega) (by omega)
    refine bsu (spec_leaf (by omega) hs) (bsu e (bsu (spec_pairText (by omega) _ _ _ _ _ _ _ _) (bsu e2 ?_)))
    have hl := rowL_len i (wayF f i (lo + spl (hi - lo)) hi).reverse R s (by rw [List.length_reverse]; omega)
    refine bsu (spec_behind _ _ (by omega) (by omega)) ?_
    refine congrArg some ?_
    have eb : ∀ now, both i ⟨(lo : Int), (hi : Int)⟩ p now = ⟨p, sdu now⟩ := fun now => by
     unfold both
     rw [if_neg (by simpa using c2)]
    rw [eb]
    rfl
def clashRow (n i : Int) (s : ByteArray) (P : List SD) : List ByteArray × Bool := if pathFits n i s P = true then (rowL i.toNat (way n.toNat i.toNat).reverse P s, true) else ([], false)
theorem impl_clashRow {k : Nat} (hk : 60000 < k) (n i : Int) (s : ByteArray) (P : List SD) : impl_ClashRow.f k n i s P = some (clashRow n i s P) := by
 unfold impl_ClashRow.f clashRow
 refine bsu (impl_pathOk (by omega) n i s P) ?_
 by_cases c : pathFits n i s P = true
 ·rw [if_pos c, if_pos c]
  obtain ⟨a, b, rfl, rfl, h1, h2, h3, h4, h5⟩ := fits_is c
  rw [Int.toNat_natCast, Int.toNat_natCast]
  refine bsu (impl_pairs (by omega) h2 (by omega) h5) ?_
  have hl := pairsL_len b (way a b).reverse P (hashLeaf s) (by rw [List.length_reverse]; exact h5.symm)
  have hw : (way a b).length ≤ a := wayF_len a b 0 a (by omega)
  have := implRow_l s (by omega) (pairsL b (way a b).reverse P (hashLeaf s)) (by omega) (pairsL b (way a b).reverse P (hashLeaf s)).length k [] (by omega) (by omega) (by simp; omega)
  rw [List.take_of_length_le (Nat.le_refl _)] at this
  rw [show wrap64 (((pairsL b (way a b).reverse P (hashLeaf s)).length : Int) - 1) = ((pairsL b (way a b).reverse P (hashLeaf s)).length : Int) - 1 by unfold wrap64; omega, this]
  rfl
 ·rw [if_neg c, if_neg c]
theorem clashRow_len (n i : Int) (s : ByteArray) (P : List SD) : (clashRow n i s P).1.length ≤ 300 := by
 unfold clashRow
 by_cases c : pathFits n i s P = true
 ·rw [if_pos c]
  obtain ⟨a, b, rfl, rfl, h1, h2, h3, h4, h5⟩ := fits_is c
  rw [Int.toNat_natCast, Int.toNat_natCast]
  have hw : (way a b).length ≤ a := wayF_len a b 0 a (by omega)
  have := rowL_len b (way a b).reverse P s (by rw [List.length_reverse]; exact h5.symm)
  show (rowL b (way a b).reverse P s).length ≤ 300
  omega
 ·rw [if_neg c]; simp
end
end Go.Proofs.Ytflckegggopdnaa.Q
namespace Go.Proofs.Ytflckegggopdnaa.Q
section
open Go.RowKit Go.Proofs.Ytflckegggopdnaa.B Go.Proofs.YtflckegggopdnaaW
def first : List ByteArray → List ByteArray → ByteArray × ByteArray × Bool
 | a :: l, b :: m => if a.toList = b.toList then first l m else (a, b, true)
 | _, _ => (⟨#[]⟩, ⟨#[]⟩, false)
theorem first_nil_r (l : List ByteArray) : first l [] = (⟨#[]⟩, ⟨#[]⟩, false) := by cases l <;> rfl
theorem first_nil_l (l : List ByteArray) : first [] l = (⟨#[]⟩, ⟨#[]⟩, false) := by cases l <;> rfl
theorem spec_first_l (n : Nat) : ∀ (k : Nat) (l m : List ByteArray) (i : Nat), l.length = i + n → 2 * n + 2 < k → l.length < 1099511627776 → spec_ClashFirst.l0 k l m (i : Int) = some (first (l.drop i) (m.drop i)) := by
 induction n with
 | zero =>
  intro k l m i hl hk hm
  obtain ⟨k, rfl⟩ : ∃ m, k = m + 2 := ⟨k - 2, by omega⟩
  simp only [spec_ClashFirst.l0, spec_ClashFirst.j1]
  rw [if_neg (by omega), List.drop_of_length_le (by omega), first_nil_l]
  rfl
 | succ n ih =>
  intro k l m i hl hk hm
  obtain ⟨k, rfl⟩ : ∃ m, k = m + 2 := ⟨k - 2, by omega⟩
  have hi : i < l.length := by omega
  simp only [spec_ClashFirst.l0, spec_ClashFirst.j1]
  rw [if_pos (by omega)]
  by_cases hj : i < m.length
  ·rw [if_pos (by simp; omega), if_pos (by omega), if_pos (by omega), rdOf_nat hi, rdOf_nat hj, step64 (by omega), List.drop_eq_getElem_cons hi, List.drop_eq_getElem_cons hj, ih k l m (i + 1) (by omega) (by omega) hm]
   simp only [first]
   rw [if_pos (show ((i : Nat) : Int) < (m.length : Int) by omega)]
   split <;> rfl
  ·rw [if_neg (by simp; omega), List.drop_of_length_le (by omega : m.length ≤ i), first_nil_r]
theorem impl_first_l (n : Nat) : ∀ (k : Nat) (l m : List ByteArray) (i : Nat), l.length = i + n → 2 * n + 2 < k → l.length < 1099511627776 → impl_ClashFirst.l0 k l m (i : Int) = some (first (l.drop i) (m.drop i)) := by
 induction n with
 | zero =>
  intro k l m i hl hk hm
  obtain ⟨k, rfl⟩ : ∃ m, k = m + 2 := ⟨k - 2, by omega⟩
  simp only [impl_ClashFirst.l0, impl_ClashFirst.j1]
  rw [if_neg (by omega), List.drop_of_length_le (by omega), first_nil_l]
  rfl
 | succ n ih =>
  intro k l m i hl hk hm
  obtain ⟨k, rfl⟩ : ∃ m, k = m + 2 := ⟨k - 2, by omega⟩
  have hi : i < l.length := by omega
  simp only [impl_ClashFirst.l0, impl_ClashFirst.j1]
  rw [if_pos (by omega)]
  by_cases hj : i < m.length
  ·rw [if_pos (by simp; omega), if_pos (by omega), if_pos (by omega), rdOf_nat hi, rdOf_nat hj, step64 (by omega), List.drop_eq_getElem_cons hi, List.drop_eq_getElem_cons hj, ih k l m (i + 1) (by omega) (by omega) hm]
   simp only [first]
   rw [if_pos (show ((i : Nat) : Int) < (m.length : Int) by omega)]
   split <;> rfl
  ·rw [if_neg (by simp; omega), List.drop_of_length_le (by omega : m.length ≤ i), first_nil_r]
theorem spec_first {k : Nat} (l m : List ByteArray) (hk : 2 * l.length + 2 < k) (hm : l.length < 1099511627776) : spec_ClashFirst.f k l m = some (first l m) := by
 unfold spec_ClashFirst.f
 have := spec_first_l l.length k l m 0 (by omega) hk hm
 simpa using this
theorem impl_first {k : Nat} (l m : List ByteArray) (hk : 2 * l.length + 2 < k) (hm : l.length < 1099511627776) : impl_ClashFirst.f k l m = some (first l m) := by
 unfold impl_ClashFirst.f
 have := impl_first_l l.length k l m 0 (by omega) hk hm
 simpa using this
end
end Go.Proofs.Ytflckegggopdnaa.Q
namespace Go.Proofs.Ytflckegggopdnaa.Q
section
open Go.RowKit Go.Proofs.Ytflckegggopdnaa.B Go.Proofs.YtflckegggopdnaaW
def neD (a b : D4) : Bool := !(a.1 == b.1) || (!(a.2.1 == b.2.1) || (!(a.2.2.1 == b.2.2.1) || (!(a.2.2.2 == b.2.2.2))))
def rowP (n i : Int) (s : ByteArray) (P : List SD) : List ByteArray := rowL i.toNat (way n.toNat i.toNat).reverse P s
def clashPaths (n i : Int) (s : ByteArray) (P : List SD) (t : ByteArray) (Q : List SD) : ByteArray × ByteArray × Bool :=
 if pathFits n i s P = true ∧ pathFits n i t Q = true ∧ neD (pathRoot n i s P).1 (pathRoot n i t Q).1 = false then first (rowP n i s P) (rowP n i t Q) else (⟨#[]⟩, ⟨#[]⟩, false)
theorem root_fits (n i : Int) (s : ByteArray) (P : List SD) : (pathRoot n i s P).2 = pathFits n i s P := by
 unfold pathRoot
 by_cases c : pathFits n i s P = true
 ·rw [if_pos c, c]
 ·rw [if_neg c]
  exact (Bool.eq_false_iff.mpr c).symm
theorem row_is {n i : Int} {s : ByteArray} {P : List SD} (c : pathFits n i s P = true) : clashRow n i s P = (rowP n i s P, true) := by
 unfold clashRow
 rw [if_pos c]
 rfl
theorem rowP_len {n i : Int} {s : ByteArray} {P : List SD} (c : pathFits n i s P = true) : (rowP n i s P).length ≤ 300 := by
 have := clashRow_len n i s P
 rw [row_is c] at this
 exact this
theorem spec_downP {k : Nat} (hk : 60002 < k) {n i : Int} {s : ByteArray} {P : List SD} (c : pathFits n i s P = true) : spec_l4Down.f k n i s P = some (rowP n i s P) := by
 obtain ⟨a, b, rfl, rfl, h1, h2, h3, h4, h5⟩ := fits_is c
 unfold rowP
 rw [Int.toNat_natCast, Int.toNat_natCast]
 exact down_l s (by omega) a k b 0 a P (by omega) (by omega) h3 (by omega) h5 (by omega)
theorem impl_clashPaths {k : Nat} (hk : 70002 < k) (n i : Int) (s : ByteArray) (P : List SD) (t : ByteArray) (Q : List SD) (hP : P.length < 1099511627776) (hQ : Q.length < 1099511627776) : impl_ClashOfPaths.f (k + 1) n i s P t Q = some (clashPaths n i s P t Q) := by
 unfold impl_ClashOfPaths.f
 refine bsu (impl_pathRoot (by omega) n i s P hP) (bsu (impl_pathRoot (by omega) n i t Q hQ) ?_)
 show (if (pathRoot n i s P).2 = true then (if (pathRoot n i t Q).2 = true then impl_ClashOfPaths.j0 (k + 1) n i s P t Q (neD (pathRoot n i s P).1 (pathRoot n i t Q).1) else impl_ClashOfPaths.j0 (k + 1) n i s P t Q true) else impl_ClashOfPaths.j0 (k + 1) n i s P t Q true) = _
 rw [root_fits, root_fits]
 unfold clashPaths
 by_cases c1 : pathFits n i s P = true
 ·rw [if_pos c1]
  by_cases c2 : pathFits n i t Q = true
  ·rw [if_pos c2]
   cases c3 : neD (pathRoot n i s P).1 (pathRoot n i t Q).1 with
   | false =>
    rw [if_pos ⟨c1, c2, rfl⟩]
    simp only [impl_ClashOfPaths.j0]
    rw [if_neg (by simp)]
    have e1 : impl_ClashRow.f k n i s P = some (rowP n i s P, true) := by rw [impl_clashRow (by omega), row_is c1]
    have e2 : impl_ClashRow.f k n i t Q = some (rowP n i t Q, true) := by rw [impl_clashRow (by omega), row_is c2]
    have h1 := rowP_len c1
    exact bsu e1 (bsu e2 (bsu (impl_first _ _ (by dsimp only; omega) (by dsimp only; omega)) rfl))
   | true =>
    rw [if_neg (fun h => Bool.noConfusion h.2.2)]
    simp only [impl_ClashOfPaths.j0]
    rw [if_pos trivial]
  ·rw [if_neg c2, if_neg (fun h => c2 h.2.1)]
   simp only [impl_ClashOfPaths.j0]
   rw [if_pos trivial]
 ·rw [if_neg c1, if_neg (fun h => c1 h.1)]
  simp only [impl_ClashOfPaths.j0]
  rw [if_pos trivial]
theorem spec_clashPaths {k : Nat} (hk : 70002 < k) (n i : Int) (s : ByteArray) (P : List SD) (t : ByteArray) (Q : List SD) (hP : P.length < 1099511627776) (hQ : Q.length < 1099511627776) : spec_ClashOfPaths.f (k + 1) n i s P t Q = some (clashPaths n i s P t Q) := by
 unfold spec_ClashOfPaths.f
 refine bsu (spec_pathRoot' (by omega) n i s P hP) (bsu (spec_pathRoot' (by omega) n i t Q hQ) ?_)
 show (if (pathRoot n i s P).2 = true then (if (pathRoot n i t Q).2 = true then spec_ClashOfPaths.j0 (k + 1) n i s P t Q (neD (pathRoot n i s P).1 (pathRoot n i t Q).1) else spec_ClashOfPaths.j0 (k + 1) n i s P t Q true) else spec_ClashOfPaths.j0 (k + 1) n i s P t Q true) = _
 rw [root_fits, root_fits]
 unfold clashPaths
 by_cases c1 : pathFits n i s P = true
 ·rw [if_pos c1]
  by_cases c2 : pathFits n i t Q = true
  ·rw [if_pos c2]
   cases c3 : neD (pathRoot n i s P).1 (pathRoot n i t Q).1 with
   | false =>
    rw [if_pos ⟨c1, c2, rfl⟩]
    simp only [spec_ClashOfPaths.j0]
    rw [if_neg (by simp)]
    have h1 := rowP_len c1
    exact bsu (spec_downP (by omega) c1) (bsu (spec_downP (by omega) c2) (bsu (spec_first _ _ (by omega) (by omega)) rfl))
   | true =>
    rw [if_neg (fun h => Bool.noConfusion h.2.2)]
    simp only [spec_ClashOfPaths.j0]
    rw [if_pos trivial]
  ·rw [if_neg c2, if_neg (fun h => c2 h.2.1)]
   simp only [spec_ClashOfPaths.j0]
   rw [if_pos trivial]
 ·rw [if_neg c1, if_neg (fun h => c1 h.1)]
  simp only [spec_ClashOfPaths.j0]
  rw [if_pos trivial]
theorem popc_le : ∀ n : Fin 257, popc n.val ≤ 8 := by decide +kernel
def pkRow : List SD → Nat → Nat → Nat → List ByteArray
 | p :: q :: r, lo, m, i => pairText (d4 p) (peaksRoot (q :: r)) :: (if i < lo + hlf (m - lo) then [] else pkRow (q :: r) (lo + hlf (m - lo)) m i)
 | _, _, _, _ => []
theorem pkRow_len (ps : List SD) : ∀ (lo m i : Nat), (pkRow ps lo m i).length ≤ ps.length := by
 induction ps with
 | nil => intro lo m i; exact Nat.le_refl _
 | cons p ps ih =>
  intro lo m i
  cases ps with
  | nil => exact Nat.zero_le _
  | cons q r =>
   simp only [pkRow, List.length_cons]
   split
   ·simp
   ·have := ih (lo + hlf (m - lo)) m i
    simp only [List.length_cons] at this
    omega
theorem pkRow_at {ps : List SD} {j : Nat} (h : j + 1 < ps.length) (lo m i : Nat) : pkRow (ps.drop j) lo m i = pairText (d4 ps[j]) (peaksRoot (ps.drop (j + 1))) :: (if i < lo + hlf (m - lo) then [] else pkRow (ps.drop (j + 1)) (lo + hlf (m - lo)) m i) := by
 rw [List.drop_eq_getElem_cons (by omega : j < ps.length), List.drop_eq_getElem_cons h]
 rfl
theorem pkRow_end {ps : List SD} {j : Nat} (h : ps.length ≤ j + 1) (lo m i : Nat) : pkRow (ps.drop j) lo m i = [] := by
 rcases Nat.lt_or_ge j ps.length with c | c
 ·rw [List.drop_eq_getElem_cons c, List.drop_of_length_le h]
  rfl
 ·rw [List.drop_of_length_le c]
  rfl
theorem spec_pk_l (g : Nat) {m i : Nat} (hi : i < m) (h : m ≤ 256) (ps : List SD) (h8 : ps.length ≤ 300) : ∀ (k j lo : Nat) (acc : List ByteArray), ps.length - j ≤ g → lo ≤ i → 30100 + g < k → acc.length + g ≤ 100000 →
  spec_l4Peaks.l0 k (m : Int) (i : Int) ps acc (lo : Int) (j : Int) = some (acc ++ pkRow (ps.drop j) lo m i) := by
 induction g with
 | zero =>
  intro k j lo acc a b c d
  obtain ⟨k, rfl⟩ : ∃ q, k = q + 1 := ⟨k - 1, by omega⟩
  simp only [spec_l4Peaks.l0]
  rw [show wrap64 ((ps.length : Int) - 1) = (ps.length : Int) - 1 by unfold wrap64; omega, if_neg (by omega), pkRow_end (by omega), List.append_nil]
 | succ g ih =>
  intro k j lo acc a b c d
  obtain ⟨k, rfl⟩ : ∃ q, k = q + 1 := ⟨k - 1, by omega⟩
  simp only [spec_l4Peaks.l0]
  rw [show wrap64 ((ps.length : Int) - 1) = (ps.length : Int) - 1 by unfold wrap64; omega]
  by_cases c1 : j + 1 < ps.length
  ·have hh := hlf_le (n := m - lo) (by omega)
   rw [if_pos (by omega), if_pos (by omega), if_pos (by omega), step64 (by omega), if_pos (by omega), if_pos (by omega), Int.toNat_natCast, rdG_nat (by omega : j < ps.length)]
   refine bsk (spec_proot (by omega) _ (by rw [List.length_drop]; omega)) (bsk (spec_pairText (by omega) _ _ _ _ _ _ _ _) ?_)
   rw [if_pos (by omega)]
   simp only [Option.bind_some]
   rw [show wrap64 ((m : Int) - (lo : Int)) = ((m - lo : Nat) : Int) by unfold wrap64; omega]
   refine bsk (spec_hlf (by omega) (by omega) (by omega)) ?_
   rw [show wrap64 ((lo : Int) + ((hlf (m - lo) : Nat) : Int)) = ((lo + hlf (m - lo) : Nat) : Int) by unfold wrap64; omega, pkRow_at c1]
   by_cases c2 : i < lo + hlf (m - lo)
   ·rw [if_pos (by omega), if_pos c2]
    rfl
   ·rw [if_neg (by omega), if_neg c2, ih k (j + 1) (lo + hlf (m - lo)) _ (by omega) (by omega) (by omega) (by simp; omega), List.append_assoc]
    rfl
  ·rw [if_neg (by omega), pkRow_end (by omega), List.append_nil]
theorem impl_pk_half {K : Nat} {m i : Nat} (ps : List SD) (acc : List ByteArray) (lo at_ left : Nat) (R : List ByteArray) (h : ∀ k, K ≤ k → impl_peaksRow.l0 k (m : Int) (i : Int) ps acc ((lo + hlf left : Nat) : Int) ((at_ + 1 : Nat) : Int) = some R) (hl : left ≤ 256) (hlo : lo ≤ 256) (hat : at_ ≤ 1000) (g : Nat) : ∀ (k j : Nat), K + g < k → 2 ^ j ≤ left → left < 2 ^ (j + g) →
  impl_peaksRow.l1 k (m : Int) (i : Int) ps acc (lo : Int) (at_ : Int) (left : Int) ((2 ^ j : Nat) : Int) = some R := by
 induction g with
 | zero => intro k j a b c; rw [Nat.add_zero] at c; omega
 | succ g ih =>
  intro k j a b c
  obtain ⟨k, rfl⟩ : ∃ q, k = q + 1 := ⟨k - 1, by omega⟩
  simp only [impl_peaksRow.l1]
  rw [show wrap64 (2 * ((2 ^ j : Nat) : Int)) = ((2 ^ (j + 1) : Nat) : Int) by rw [Nat.pow_succ]; unfold wrap64; omega, show wrap64 (((2 ^ j : Nat) : Int) * 2) = ((2 ^ (j + 1) : Nat) : Int) by rw [Nat.pow_succ]; unfold wrap64; omega]
  by_cases c1 : 2 ^ (j + 1) ≤ left
  ·rw [if_pos (by omega)]
   exact ih k (j + 1) (by omega) c1 (by rw [show j + 1 + g = j + (g + 1) by omega]; exact c)
  ·rw [if_neg (by omega), ← hlf_is b (by omega), step64 (by omega), show wrap64 ((lo : Int) + ((hlf left : Nat) : Int)) = ((lo + hlf left : Nat) : Int) by
    have := hlf_is b (by omega : left < 2 ^ (j + 1))
    unfold wrap64
    omega]
   exact h k (by omega)
theorem impl_pk_l (g : Nat) {m i : Nat} (hi : i < m) (h : m ≤ 256) (ps : List SD) (h8 : ps.length ≤ 300) : ∀ (k j lo : Nat) (acc : List ByteArray), ps.length - j ≤ g → lo ≤ m → j ≤ 900 → 30100 + 20 * g < k → acc.length + g ≤ 100000 →
  impl_peaksRow.l0 k (m : Int) (i : Int) ps acc (lo : Int) (j : Int) = some (acc ++ if lo ≤ i then pkRow (ps.drop j) lo m i else []) := by
 induction g with
 | zero =>
  intro k j lo acc a b e c d
  obtain ⟨k, rfl⟩ : ∃ q, k = q + 2 := ⟨k - 2, by omega⟩
  rw [impl_peaksRow.l0, step64 (by omega), if_neg (by omega), impl_peaksRow.j1, if_neg (by simp), pkRow_end (by omega), ite_self, List.append_nil]
 | succ g ih =>
  intro k j lo acc a b e c d
  obtain ⟨k, rfl⟩ : ∃ q, k = q + 2 := ⟨k - 2, by omega⟩
  by_cases c1 : j + 1 < ps.length
  ·rw [impl_peaksRow.l0, step64 (by omega), if_pos (by omega)]
   by_cases c2 : lo ≤ i
   ·have hh := hlf_le (n := m - lo) (by omega)
    rw [decide_eq_true (by omega : (i : Int) ≥ (lo : Int)), impl_peaksRow.j1, if_pos rfl, if_pos (by omega), if_pos (by omega), step64 (by omega), if_pos (by omega), if_pos (by omega), Int.toNat_natCast, rdG_nat (by omega : j < ps.length), if_pos c2]
    refine bsk (impl_proot (by omega) _ (by rw [List.length_drop]; omega)) (bsk (impl_pairText (by omega) _ _ _ _ _ _ _ _) ?_)
    rw [if_pos (by omega), show wrap64 ((m : Int) - (lo : Int)) = ((m - lo : Nat) : Int) by unfold wrap64; omega]
    have := impl_pk_half (K := 30100 + 20 * g + 1) (m := m) (i := i) ps (acc ++ [pairText (d4 ps[j]) (peaksRoot (ps.drop (j + 1)))]) lo j (m - lo) _ (fun k hk => ih k (j + 1) (lo + hlf (m - lo)) _ (by omega) (by omega) (by omega) (by omega) (by simp; omega)) (by omega) (by omega) (by omega) 9 k 0 (by omega) (by simp; omega) (by rw [Nat.zero_add, show (2 : Nat) ^ 9 = 512 by rfl]; omega)
    rw [show ((2 ^ 0 : Nat) : Int) = 1 by rfl] at this
    refine Eq.trans this ?_
    rw [pkRow_at c1]
    refine congrArg some ?_
    rw [List.append_assoc]
    refine congrArg (acc ++ ·) ?_
    by_cases c3 : i < lo + hlf (m - lo)
    ·rw [if_pos c3, if_neg (by omega)]
     rfl
    ·rw [if_neg c3, if_pos (by omega)]
     rfl
   ·rw [decide_eq_false (by omega : ¬ (i : Int) ≥ (lo : Int)), impl_peaksRow.j1, if_neg (by simp), if_neg c2, List.append_nil]
  ·rw [impl_peaksRow.l0, step64 (by omega), if_neg (by omega), impl_peaksRow.j1, if_neg (by simp), pkRow_end (by omega), ite_self, List.append_nil]
theorem spec_pk {k m i : Nat} (hk : 31000 < k) (hi : i < m) (h : m ≤ 256) (ps : List SD) (h8 : ps.length ≤ 300) : spec_l4Peaks.f k (m : Int) (i : Int) ps = some (pkRow ps 0 m i) := by
 unfold spec_l4Peaks.f
 have := spec_pk_l ps.length hi h ps h8 k 0 0 [] (by omega) (by omega) (by omega) (by simp; omega)
 simpa using this
theorem impl_pk {k m i : Nat} (hk : 40000 < k) (hi : i < m) (h : m ≤ 256) (ps : List SD) (h8 : ps.length ≤ 300) : impl_peaksRow.f k (m : Int) (i : Int) ps = some (pkRow ps 0 m i) := by
 unfold impl_peaksRow.f
 have := impl_pk_l ps.length hi h ps h8 k 0 0 [] (by omega) (by omega) (by omega) (by omega) (by simp; omega)
 simpa using this
def pathChk (n : Int) (d : D4) (i : Int) (s : ByteArray) (P : List SD) : Bool := if (pathRoot n i s P).2 = true then ((pathRoot n i s P).1.1 == d.1 && ((pathRoot n i s P).1.2.1 == d.2.1 && ((pathRoot n i s P).1.2.2.1 == d.2.2.1 && ((pathRoot n i s P).1.2.2.2 == d.2.2.2)))) else false
theorem impl_pathChk {k : Nat} (hk : 60000 < k) (n : Int) (d : D4) (i : Int) (s : ByteArray) (P : List SD) (hP : P.length < 1099511627776) : impl_PathCheck.f k n d.1 d.2.1 d.2.2.1 d.2.2.2 i s P = some (pathChk n d i s P) := by
 unfold impl_PathCheck.f pathChk
 refine bsk (impl_pathRoot hk n i s P hP) ?_
 dsimp only
 by_cases c : (pathRoot n i s P).2 = true
 ·rw [if_pos c, if_pos c]
 ·rw [if_neg c, if_neg c]
theorem spec_pathChk {k : Nat} (hk : 60001 < k) (n : Int) (d : D4) (i : Int) (s : ByteArray) (P : List SD) (hP : P.length < 1099511627776) : spec_PathCheck.f k n d.1 d.2.1 d.2.2.1 d.2.2.2 i s P = some (pathChk n d i s P) := by
 unfold spec_PathCheck.f pathChk
 refine bsk (spec_pathRoot' hk n i s P hP) ?_
 dsimp only
 by_cases c : (pathRoot n i s P).2 = true
 ·rw [if_pos c, if_pos c]
 ·rw [if_neg c, if_neg c]
theorem chk_fits {n : Int} {d : D4} {i : Int} {s : ByteArray} {P : List SD} (h : pathChk n d i s P = true) : pathFits n i s P = true := by
 unfold pathChk at h
 rw [root_fits] at h
 by_cases c : pathFits n i s P = true
 ·exact c
 ·rw [if_neg c] at h; exact absurd h (by simp)
def clashG (m : Int) (a : D4) (n : Int) (b : D4) (P : List SD) (i : Int) (s : ByteArray) (p : List SD) : ByteArray × ByteArray × Bool :=
 if pathChk m a i s p = true then if gcheck m n a b P = 0 then if (lift m n i p P).2 = true then if pathChk n b i s (lift m n i p P).1 = true then (⟨#[]⟩, ⟨#[]⟩, false)
  else first (rowP m i s p) (pkRow (P.take (popc m.toNat)) 0 m.toNat i.toNat) else (⟨#[]⟩, ⟨#[]⟩, false) else (⟨#[]⟩, ⟨#[]⟩, false) else (⟨#[]⟩, ⟨#[]⟩, false)
theorem clash_case {m : Int} {a : D4} {n : Int} {b : D4} {P : List SD} {i : Int} {s : ByteArray} {p : List SD} (h1 : pathChk m a i s p = true) (h2 : gcheck m n a b P = 0) (h3 : (lift m n i p P).2 = true) (h4 : ¬ pathChk n b i s (lift m n i p P).1 = true) :
  ∃ x y z : Nat, m = (x : Int) ∧ n = (y : Int) ∧ i = (z : Int) ∧ z < x ∧ x ≤ 256 ∧ popc x ≤ P.length ∧ (pkRow (P.take (popc x)) 0 x z).length ≤ 300 ∧ (P.take (popc x)).length ≤ 300 := by
 obtain ⟨x, z, rfl, rfl, e1, e2, e3, e4, e5⟩ := fits_is (chk_fits h1)
 unfold lift at h3 h4
 by_cases c : 0 ≤ (x : Int) ∧ (x : Int) ≤ n ∧ n ≤ 256 ∧ 0 ≤ (z : Int) ∧ (z : Int) < (x : Int) ∧ (p.length : Int) = pathLen (x : Int) (z : Int) ∧ (P.length : Int) = growLen (x : Int) n
 ·rw [if_pos c] at h3 h4
  obtain ⟨y, rfl⟩ : ∃ q : Nat, n = (q : Int) := ⟨n.toNat, by omega⟩
  by_cases c2 : (x : Int) = (y : Int)
  ·exfalso
   rw [if_pos c2] at h4
   apply h4
   have e6 : a = b := by
    unfold gcheck at h2
    rw [if_pos (by omega), if_pos c.2.2.2.2.2.2, if_neg (by omega), if_pos c2] at h2
    by_cases c3 : nd a b = true
    ·rw [if_pos c3] at h2; exact absurd h2 (by decide)
    ·exact Classical.byContradiction fun hh => c3 ((nd_iff a b).2 hh)
   rw [← e6, ← c2]
   exact h1
  ·have hxy : x < y := by omega
   have hg := growLen_in (m := x) (n := y) (by omega) hxy (by omega)
   have hp := popc_old (m := x) (n := y) (by omega) hxy (by omega)
   have hP : P.length = (gnodes x y).length := by have := c.2.2.2.2.2.2; omega
   have h8 := popc_le ⟨x, by omega⟩
   have hlen := pkRow_len (P.take (popc x)) 0 x z
   have h9 : (P.take (popc x)).length ≤ 8 := by rw [List.length_take]; exact Nat.le_trans (Nat.min_le_left _ _) h8
   exact ⟨x, y, z, rfl, rfl, rfl, e3, e2, by omega, by omega, by omega⟩
 ·rw [if_neg c] at h3
  exact absurd h3 (by simp)
theorem impl_clashG {k : Nat} (hk : 70002 < k) (m : Int) (a : D4) (n : Int) (b : D4) (P : List SD) (i : Int) (s : ByteArray) (p : List SD) (hP : P.length < 1099511627776) (hp : p.length < 1099511627776) :
  impl_ClashOfGrowth.f (k + 3) m a.1 a.2.1 a.2.2.1 a.2.2.2 n b.1 b.2.1 b.2.2.1 b.2.2.2 P i s p = some (clashG m a n b P i s p) := by
 unfold impl_ClashOfGrowth.f clashG
 have hno : ∀ q, impl_ClashOfGrowth.j0 (q + 1) i s p true m a.1 a.2.1 a.2.2.1 a.2.2.2 n b.1 b.2.1 b.2.2.1 b.2.2.2 P = some ((⟨#[]⟩ : ByteArray), (⟨#[]⟩ : ByteArray), false) := fun q => by rw [impl_ClashOfGrowth.j0, if_pos rfl]
 have hno1 : ∀ q, impl_ClashOfGrowth.j1 (q + 1) i s p true m a.1 a.2.1 a.2.2.1 a.2.2.2 n b.1 b.2.1 b.2.2.1 b.2.2.2 P = some ((⟨#[]⟩ : ByteArray), (⟨#[]⟩ : ByteArray), false) := fun q => by rw [impl_ClashOfGrowth.j1, if_pos rfl]
 refine bsk (impl_pathChk (k := k + 3) (by omega) m a i s p hp) ?_
 by_cases c1 : pathChk m a i s p = true
 ·rw [if_pos c1, if_pos c1]
  refine bsk (impl_gcheck (k := k + 1) (by omega) m n a b hP) ?_
  by_cases c2 : gcheck m n a b P = 0
  ·rw [if_pos c2, c2, show ((0 : Int) != 0) = false from rfl, impl_ClashOfGrowth.j0, if_neg (by simp)]
   refine bsk (impl_lift (k := k + 1) (by omega) m n i p P hp hP) ?_
   by_cases c3 : (lift m n i p P).2 = true
   ·rw [if_pos c3, if_pos c3]
    refine bsk (impl_pathChk (k := k + 2) (by omega) n b i s _ (by have := lift_len m n i p P; omega)) ?_
    by_cases c4 : pathChk n b i s (lift m n i p P).1 = true
    ·rw [c4, hno1, if_pos rfl]
    ·rw [Bool.eq_false_iff.mpr c4, impl_ClashOfGrowth.j1, if_neg (by simp), if_neg (by simp)]
     have hf := chk_fits c1
     obtain ⟨x, y, z, rfl, rfl, rfl, e1, e2, e3, e4, e5⟩ := clash_case c1 c2 c3 c4
     refine bsk (impl_clashRow (k := k + 1) (by omega) _ _ s p) ?_
     rw [row_is hf]
     refine bsk (impl_count (by omega)) ?_
     rw [if_pos (Int.natCast_nonneg _), if_pos (Int.ofNat_le.2 e3), Int.toNat_natCast, Int.toNat_natCast, Int.toNat_natCast]
     refine bsk (impl_pk (k := k + 1) (by omega) e1 e2 _ e5) ?_
     have hr := rowP_len hf
     exact bsk (impl_first (k := k + 1) (rowP (x : Int) (z : Int) s p) _ (by omega) (by omega)) rfl
   ·rw [if_neg c3, hno1, if_neg c3]
  ·rw [if_neg c2, show ((gcheck m n a b P) != 0) = true by simpa using c2, hno]
 ·rw [if_neg c1, if_neg c1, hno]
theorem spec_clashG {k : Nat} (hk : 70002 < k) (m : Int) (a : D4) (n : Int) (b : D4) (P : List SD) (i : Int) (s : ByteArray) (p : List SD) (hP : P.length < 1099511627776) (hp : p.length < 1099511627776) :
  spec_ClashOfGrowth.f (k + 3) m a.1 a.2.1 a.2.2.1 a.2.2.2 n b.1 b.2.1 b.2.2.1 b.2.2.2 P i s p = some (clashG m a n b P i s p) := by
 unfold spec_ClashOfGrowth.f clashG
 have hno : ∀ q, spec_ClashOfGrowth.j0 (q + 1) i s p true m a.1 a.2.1 a.2.2.1 a.2.2.2 n b.1 b.2.1 b.2.2.1 b.2.2.2 P = some ((⟨#[]⟩ : ByteArray), (⟨#[]⟩ : ByteArray), false) := fun q => by rw [spec_ClashOfGrowth.j0, if_pos rfl]
 have hno1 : ∀ q, spec_ClashOfGrowth.j1 (q + 1) i s p true m a.1 a.2.1 a.2.2.1 a.2.2.2 n b.1 b.2.1 b.2.2.1 b.2.2.2 P = some ((⟨#[]⟩ : ByteArray), (⟨#[]⟩ : ByteArray), false) := fun q => by rw [spec_ClashOfGrowth.j1, if_pos rfl]
 refine bsk (spec_pathChk (k := k + 3) (by omega) m a i s p hp) ?_
 by_cases c1 : pathChk m a i s p = true
 ·rw [if_pos c1, if_pos c1]
  refine bsk (spec_gcheck (k := k + 2) (by omega) m n a b hP) ?_
  by_cases c2 : gcheck m n a b P = 0
  ·rw [if_pos c2, c2, show ((0 : Int) != 0) = false from rfl, spec_ClashOfGrowth.j0, if_neg (by simp)]
   refine bsk (spec_lift (k := k + 1) (by omega) m n i p P hp hP) ?_
   by_cases c3 : (lift m n i p P).2 = true
   ·rw [if_pos c3, if_pos c3]
    refine bsk (spec_pathChk (k := k + 2) (by omega) n b i s _ (by have := lift_len m n i p P; omega)) ?_
    by_cases c4 : pathChk n b i s (lift m n i p P).1 = true
    ·rw [c4, hno1, if_pos rfl]
    ·rw [Bool.eq_false_iff.mpr c4, spec_ClashOfGrowth.j1, if_neg (by simp), if_neg (by simp)]
     have hf := chk_fits c1
     obtain ⟨x, y, z, rfl, rfl, rfl, e1, e2, e3, e4, e5⟩ := clash_case c1 c2 c3 c4
     refine bsk (spec_downP (k := k + 1) (by omega) hf) ?_
     refine bsk (spec_count (k := k + 1) (by omega) (by omega)) ?_
     rw [if_pos (Int.natCast_nonneg _), if_pos (Int.ofNat_le.2 e3), Int.toNat_natCast, Int.toNat_natCast, Int.toNat_natCast]
     refine bsk (spec_pk (k := k + 1) (by omega) e1 e2 _ e5) ?_
     have hr := rowP_len hf
     exact bsk (spec_first (k := k + 1) (rowP (x : Int) (z : Int) s p) _ (by omega) (by omega)) rfl
   ·rw [if_neg c3, hno1, if_neg c3]
  ·rw [if_neg c2, show ((gcheck m n a b P) != 0) = true by simpa using c2, hno]
 ·rw [if_neg c1, if_neg c1, hno]
abbrev LG := S42
abbrev SG := S51
theorem bsg {α β : Type} {x : Option α} {v : α} {F : α → Option β} {r : Option β} (h : x = some v) (k : F v = r) : x.bind F = r := by rw [h]; exact k
def convG (g : LG) : SG := ⟨⟨g.f0.f0, conv g.f0.f1⟩, g.f1.map conv⟩
theorem rdLG_nat {l : List LG} {i : Nat} (h : i < l.length) : rd_T42 l (i : Int) = l[i] := by simp [rd_T42, List.getD, List.getElem?_eq_getElem h]
theorem rdSG_nat {l : List SG} {i : Nat} (h : i < l.length) : rd_T51 l (i : Int) = l[i] := by simp [rd_T51, List.getD, List.getElem?_eq_getElem h]
theorem toGrow {k : Nat} (hk : 1048577 ≤ k) (g : LG) (h : g.f1.length ≤ 1048576) : laws_toGrowth.f k g.f0.f0 g.f0.f1.f0 g.f0.f1.f1 g.f0.f1.f2 g.f0.f1.f3 g.f1 = some (g.f0.f0, g.f0.f1.f0, g.f0.f1.f1, g.f0.f1.f2, g.f0.f1.f3, g.f1.map conv) := by
 unfold laws_toGrowth.f
 refine bsg (v := (g.f0.f0, g.f0.f1.f0, g.f0.f1.f1, g.f0.f1.f2, g.f0.f1.f3)) rfl ?_
 exact bsg (toDigs g.f1 (by omega) (by omega)) rfl
theorem toGrows_l (n : Nat) : ∀ (k : Nat) (l : List LG) (i : Nat), l.length = i + n → 1048580 + n < k → l.length ≤ 1048576 → (∀ g ∈ l, g.f1.length ≤ 1048576) →
  laws_toGrowthS.l0 k l ((l.take i).map convG ++ List.replicate (l.length - i) z51) (i : Int) = some (l.map convG) := by
 induction n with
 | zero =>
  intro k l i hl hk hm _
  obtain ⟨k, rfl⟩ : ∃ m, k = m + 1 := ⟨k - 1, by omega⟩
  simp only [laws_toGrowthS.l0]
  rw [if_neg (by omega), show l.length - i = 0 by omega, List.take_of_length_le (by omega)]
  simp
 | succ n ih =>
  intro k l i hl hk hm hg
  obtain ⟨k, rfl⟩ : ∃ m, k = m + 1 := ⟨k - 1, by omega⟩
  have hi : i < l.length := by omega
  simp only [laws_toGrowthS.l0]
  rw [if_pos (by omega), if_pos (by omega), rdLG_nat hi]
  refine bsg (toGrow (by omega) l[i] (hg _ (List.getElem_mem hi))) ?_
  rw [if_pos (by simp; omega), show ((i : Nat) : Int).toNat = i from rfl]
  show laws_toGrowthS.l0 k l (List.set _ i (convG l[i])) _ = _
  rw [set_step l convG _ i hi, step64 (by omega), ih k l (i + 1) (by omega) (by omega) hm hg]
theorem toGrows {k : Nat} (l : List LG) (hk : 2100000 < k) (hm : l.length ≤ 1048576) (hg : ∀ g ∈ l, g.f1.length ≤ 1048576) : laws_toGrowthS.f k l = some (l.map convG) := by
 unfold laws_toGrowthS.f
 rw [if_pos (by omega), if_pos (by simp; omega)]
 have := toGrows_l l.length k l 0 (by omega) (by omega) hm hg
 simpa using this
theorem eqPt (a b c d e : Int) : laws_eqPoint.f a b c d e a b c d e = some true := by
 unfold laws_eqPoint.f laws_eqDigest.f
 simp
theorem eqGrow {k : Nat} (hk : 1048577 ≤ k) (g : SG) (h : g.f1.length ≤ 1048576) : laws_eqGrowth.f k g.f0.f0 g.f0.f1.f0 g.f0.f1.f1 g.f0.f1.f2 g.f0.f1.f3 g.f1 g.f0.f0 g.f0.f1.f0 g.f0.f1.f1 g.f0.f1.f2 g.f0.f1.f3 g.f1 = some true := by
 unfold laws_eqGrowth.f
 refine bsg (eqPt _ _ _ _ _) ?_
 rw [if_pos rfl]
 refine bsg (eqDigs g.f1 (by omega) (by omega)) ?_
 rw [if_pos rfl]
theorem eqGrows_l (n : Nat) : ∀ (k : Nat) (l : List SG) (i : Nat), l.length = i + n → 1048580 + n < k → l.length ≤ 1048576 → (∀ g ∈ l, g.f1.length ≤ 1048576) → laws_eqGrowthS.l0 k l l (i : Int) = some true := by
 induction n with
 | zero =>
  intro k l i hl hk hm _
  obtain ⟨k, rfl⟩ : ∃ m, k = m + 1 := ⟨k - 1, by omega⟩
  simp only [laws_eqGrowthS.l0]
  rw [if_neg (by omega)]
 | succ n ih =>
  intro k l i hl hk hm hg
  obtain ⟨k, rfl⟩ : ∃ m, k = m + 1 := ⟨k - 1, by omega⟩
  have hi : i < l.length := by omega
  simp only [laws_eqGrowthS.l0]
  rw [if_pos (by omega), if_pos (by omega), if_pos (by omega), rdSG_nat hi]
  refine bsg (eqGrow (by omega) l[i] (hg _ (List.getElem_mem hi))) ?_
  rw [if_pos rfl, step64 (by omega), ih k l (i + 1) (by omega) (by omega) hm hg]
theorem eqGrows {k : Nat} (l : List SG) (hk : 2100000 < k) (hm : l.length ≤ 1048576) (hg : ∀ g ∈ l, g.f1.length ≤ 1048576) : laws_eqGrowthS.f k l l = some true := by
 unfold laws_eqGrowthS.f
 rw [if_pos rfl]
 exact eqGrows_l l.length k l 0 (by omega) (by omega) hm hg
theorem szGrow (g : LG) (left : Int) (hl : g.f1.length ≤ 9223372036854775807) (h0 : 0 ≤ left) (h1 : left ≤ 1048576) :
  ∃ r, laws_szGrowth.f g.f0.f0 g.f0.f1.f0 g.f0.f1.f1 g.f0.f1.f2 g.f0.f1.f3 g.f1 left = some r ∧ (r < 0 ∨ (0 ≤ r ∧ r ≤ left ∧ g.f1.length ≤ 1048576)) := by
 unfold laws_szGrowth.f
 obtain ⟨r, hr, hb⟩ := szDigs g.f1 left hl h0 h1
 by_cases c : r < 0
 ·refine ⟨-1, bsg hr ?_, .inl (by omega)⟩
  rw [if_pos c]
 ·refine ⟨r, bsg hr ?_, hb⟩
  rw [if_neg c]
theorem szGrows_l (n : Nat) : ∀ (k : Nat) (l : List LG) (i : Nat) (left : Int), l.length = i + n → n < k → l.length < 1099511627776 → (∀ g ∈ l, g.f1.length ≤ 9223372036854775807) → 0 ≤ left → left ≤ 1048576 →
  ∃ r, laws_szGrowthS.l0 k l left (i : Int) = some r ∧ (r < 0 ∨ (0 ≤ r ∧ r ≤ left ∧ ∀ g ∈ l.drop i, g.f1.length ≤ 1048576)) := by
 induction n with
 | zero =>
  intro k l i left hl hk hm hg h0 h1
  obtain ⟨k, rfl⟩ : ∃ m, k = m + 1 := ⟨k - 1, by omega⟩
  simp only [laws_szGrowthS.l0]
  rw [if_neg (by omega), List.drop_of_length_le (by omega)]
  exact ⟨left, rfl, .inr ⟨h0, Int.le_refl _, fun g hx => absurd hx (by simp)⟩⟩
 | succ n ih =>
  intro k l i left hl hk hm hg h0 h1
  obtain ⟨k, rfl⟩ : ∃ m, k = m + 1 := ⟨k - 1, by omega⟩
  have hi : i < l.length := by omega
  simp only [laws_szGrowthS.l0]
  obtain ⟨r, hr, hb⟩ := szGrow l[i] left (hg _ (List.getElem_mem hi)) h0 h1
  rw [if_pos (by omega), if_pos (by omega), rdLG_nat hi]
  by_cases c : r < 0
  ·refine ⟨-1, bsg hr ?_, .inl (by omega)⟩
   rw [if_pos c]
  ·obtain ⟨r2, hr2, hb2⟩ := ih k l (i + 1) r (by omega) (by omega) hm hg (by omega) (by omega)
   refine ⟨r2, bsg hr ?_, ?_⟩
   ·rw [if_neg c, step64 (by omega), hr2]
   ·rcases hb2 with hb2 | ⟨a, b, d⟩
    ·exact .inl hb2
    ·refine .inr ⟨a, by omega, fun g hx => ?_⟩
     rw [List.drop_eq_getElem_cons hi] at hx
     rcases List.mem_cons.1 hx with rfl | hx
     ·omega
     ·exact d g hx
theorem szGrows {k : Nat} (l : List LG) (hk : 1048577 < k) (hl : l.length ≤ 9223372036854775807) (hg : ∀ g ∈ l, g.f1.length ≤ 9223372036854775807) :
  ∃ r, laws_szGrowthS.f k l 1048576 = some r ∧ (r < 0 ∨ (0 ≤ r ∧ r ≤ 1048576 ∧ l.length ≤ 1048576 ∧ ∀ g ∈ l, g.f1.length ≤ 1048576)) := by
 unfold laws_szGrowthS.f
 have ew : wrap64 (1048576 - (l.length : Int)) = 1048576 - (l.length : Int) := by unfold wrap64; omega
 rw [ew]
 by_cases c : 1048576 - (l.length : Int) < 0
 ·rw [if_pos c]
  exact ⟨-1, rfl, .inl (by omega)⟩
 ·rw [if_neg c]
  obtain ⟨r, hr, hb⟩ := szGrows_l l.length k l 0 (1048576 - (l.length : Int)) (by omega) (by omega) (by omega) hg (by omega) (by omega)
  refine ⟨r, hr, ?_⟩
  rcases hb with hb | ⟨a, b, d⟩
  ·exact .inl hb
  ·rw [List.drop_zero] at d
   exact .inr ⟨a, by omega, by omega, d⟩
theorem convG_len {l : List LG} (hg : ∀ g ∈ l, g.f1.length ≤ 1048576) : ∀ g ∈ l.map convG, g.f1.length ≤ 1048576 := by
 intro g hx
 obtain ⟨a, ha, rfl⟩ := List.mem_map.1 hx
 show (a.f1.map conv).length ≤ 1048576
 rw [List.length_map]
 exact hg a ha
def pt6 (n : Int) (d : D4) (b : Bool) : Int × Int × Int × Int × Int × Bool := (n, d.1, d.2.1, d.2.2.1, d.2.2.2, b)
def dg (d : SD) : D4 := (d.f0, d.f1, d.f2, d.f3)
def chainF : List SG → Int → D4 → Int × Int × Int × Int × Int × Bool
 | [], n, d => pt6 n d true
 | g :: gs, n, d => if gcheck n g.f0.f0 d (dg g.f0.f1) g.f1 = 0 then chainF gs g.f0.f0 (dg g.f0.f1) else pt6 0 (0, 0, 0, 0) false
def chainEnd (l : List SG) (n : Int) (d : D4) : Int × Int × Int × Int × Int × Bool := if (l.length : Int) > 256 then pt6 0 (0, 0, 0, 0) false else chainF l n d
theorem impl_chain_l (n : Nat) : ∀ (k : Nat) (l : List SG) (i : Nat) (m : Int) (d : D4), l.length = i + n → 60010 + n < k → l.length ≤ 1000000 → (∀ g ∈ l, g.f1.length < 1099511627776) →
  impl_ChainEnd.l0 k l (l.length : Int) (i : Int) m d.1 d.2.1 d.2.2.1 d.2.2.2 = some (chainF (l.drop i) m d) := by
 induction n with
 | zero =>
  intro k l i m d hl hk hm hg
  obtain ⟨k, rfl⟩ : ∃ m, k = m + 1 := ⟨k - 1, by omega⟩
  simp only [impl_ChainEnd.l0]
  rw [if_neg (by omega), List.drop_of_length_le (by omega)]
  rfl
 | succ n ih =>
  intro k l i m d hl hk hm hg
  obtain ⟨k, rfl⟩ : ∃ m, k = m + 3 := ⟨k - 3, by omega⟩
  have hi : i < l.length := by omega
  simp only [impl_ChainEnd.l0]
  rw [if_pos (by omega), if_pos (by omega), if_pos (by omega), rdSG_nat hi, List.drop_eq_getElem_cons hi]
  refine bsg (impl_gcheck (k := k) (by omega) m l[i].f0.f0 d (dg l[i].f0.f1) (hg _ (List.getElem_mem hi))) ?_
  simp only [chainF]
  by_cases c : gcheck m l[i].f0.f0 d (dg l[i].f0.f1) l[i].f1 = 0
  ·rw [if_pos c, if_pos c, step64 (by omega)]
   exact ih (k + 2) l (i + 1) l[i].f0.f0 (dg l[i].f0.f1) (by omega) (by omega) hm hg
  ·rw [if_neg c, if_neg c]
   rfl
theorem spec_chain_l (n : Nat) : ∀ (k : Nat) (l : List SG) (i : Nat) (m : Int) (d : D4), l.length = i + n → 60010 + n < k → l.length ≤ 1000000 → (∀ g ∈ l, g.f1.length < 1099511627776) →
  spec_ChainEnd.l0 k l (i : Int) m d.1 d.2.1 d.2.2.1 d.2.2.2 = some (chainF (l.drop i) m d) := by
 induction n with
 | zero =>
  intro k l i m d hl hk hm hg
  obtain ⟨k, rfl⟩ : ∃ m, k = m + 1 := ⟨k - 1, by omega⟩
  simp only [spec_ChainEnd.l0]
  rw [if_neg (by omega), List.drop_of_length_le (by omega)]
  rfl
 | succ n ih =>
  intro k l i m d hl hk hm hg
  obtain ⟨k, rfl⟩ : ∃ m, k = m + 2 := ⟨k - 2, by omega⟩
  have hi : i < l.length := by omega
  simp only [spec_ChainEnd.l0]
  rw [if_pos (by omega), if_pos (by omega), rdSG_nat hi, List.drop_eq_getElem_cons hi]
  refine bsg (spec_gcheck (k := k) (by omega) m l[i].f0.f0 d (dg l[i].f0.f1) (hg _ (List.getElem_mem hi))) ?_
  simp only [chainF]
  by_cases c : gcheck m l[i].f0.f0 d (dg l[i].f0.f1) l[i].f1 = 0
  ·rw [if_pos c, if_pos c, step64 (by omega)]
   exact ih (k + 1) l (i + 1) l[i].f0.f0 (dg l[i].f0.f1) (by omega) (by omega) hm hg
  ·rw [if_neg c, if_neg c]
   rfl
theorem impl_chain {k : Nat} (hk : 61000 < k) (l : List SG) (m : Int) (d : D4) (hg : ∀ g ∈ l, g.f1.length < 1099511627776) : impl_ChainEnd.f k m d.1 d.2.1 d.2.2.1 d.2.2.2 l = some (chainEnd l m d) := by
 unfold impl_ChainEnd.f chainEnd
 by_cases c : (l.length : Int) > 256
 ·rw [if_pos c, if_pos c]; rfl
 ·rw [if_neg c, if_neg c]
  exact impl_chain_l l.length k l 0 m d (by omega) (by omega) (by omega) hg
theorem spec_chain {k : Nat} (hk : 61000 < k) (l : List SG) (m : Int) (d : D4) (hg : ∀ g ∈ l, g.f1.length < 1099511627776) : spec_ChainEnd.f k m d.1 d.2.1 d.2.2.1 d.2.2.2 l = some (chainEnd l m d) := by
 unfold spec_ChainEnd.f chainEnd
 by_cases c : (l.length : Int) > 256
 ·rw [if_pos c, if_pos c]; rfl
 ·rw [if_neg c, if_neg c]
  exact spec_chain_l l.length k l 0 m d (by omega) (by omega) (by omega) hg
def ccF (i : Int) (s t : ByteArray) (Q : List SD) (en : Int) : List SG → Int → D4 → List SD → ByteArray × ByteArray × Bool
 | [], _, _, p => clashPaths en i s p t Q
 | g :: gs, m, d, p => if pathChk g.f0.f0 (dg g.f0.f1) i s (lift m g.f0.f0 i p g.f1).1 = true then ccF i s t Q en gs g.f0.f0 (dg g.f0.f1) (lift m g.f0.f0 i p g.f1).1 else clashG m d g.f0.f0 (dg g.f0.f1) g.f1 i s p
theorem chain_256 {l : List SG} {m : Int} {d : D4} (h : (chainEnd l m d).2.2.2.2.2 = true) : l.length ≤ 256 := by
 unfold chainEnd at h
 by_cases c : (l.length : Int) > 256
 ·rw [if_pos c] at h
  exact absurd h (by simp [pt6])
 ·omega
section
variable (i : Int) (s t : ByteArray) (Q : List SD) (hQ : Q.length < 1099511627776) (e1 : Int) (e : D4)
include hQ
theorem impl_cc (n : Nat) : ∀ (k : Nat) (l : List SG) (j : Nat) (m : Int) (d : D4) (p : List SD), l.length = j + n → 80000 + n < k → l.length ≤ 1000000 → (∀ g ∈ l, g.f1.length < 1099511627776) → p.length < 1099511627776 →
  impl_ClashOfChain.l0 k i s t Q p l (l.length : Int) (j : Int) e1 e.1 e.2.1 e.2.2.1 e.2.2.2 m d.1 d.2.1 d.2.2.1 d.2.2.2 = some (ccF i s t Q e1 (l.drop j) m d p) := by
 induction n with
 | zero =>
  intro k l j m d p hl hk hm hg hp
  obtain ⟨k, rfl⟩ : ∃ m, k = m + 2 := ⟨k - 2, by omega⟩
  rw [impl_ClashOfChain.l0, if_neg (by omega), List.drop_of_length_le (by omega)]
  exact bsk (impl_clashPaths (k := k) (by omega) e1 i s p t Q hp hQ) rfl
 | succ n ih =>
  intro k l j m d p hl hk hm hg hp
  obtain ⟨k, rfl⟩ : ∃ m, k = m + 4 := ⟨k - 4, by omega⟩
  have hi : j < l.length := by omega
  have hq := hg _ (List.getElem_mem hi)
  rw [impl_ClashOfChain.l0, if_pos (by omega), if_pos (by omega), if_pos (by omega), rdSG_nat hi, List.drop_eq_getElem_cons hi]
  have hl2 : (lift m l[j].f0.f0 i p l[j].f1).1.length < 1099511627776 := by have := lift_len m l[j].f0.f0 i p l[j].f1; omega
  refine bsk (impl_lift (k := k + 2) (by omega) m l[j].f0.f0 i p l[j].f1 hp hq) ?_
  refine bsk (impl_pathChk (k := k + 3) (by omega) l[j].f0.f0 (dg l[j].f0.f1) i s (lift m l[j].f0.f0 i p l[j].f1).1 hl2) ?_
  rw [ccF]
  by_cases c : pathChk l[j].f0.f0 (dg l[j].f0.f1) i s (lift m l[j].f0.f0 i p l[j].f1).1 = true
  ·rw [if_pos c, if_pos c, step64 (by omega)]
   exact ih (k + 3) l (j + 1) l[j].f0.f0 (dg l[j].f0.f1) _ (by omega) (by omega) hm hg hl2
  ·rw [if_neg c, if_neg c]
   exact bsk (impl_clashG (k := k) (by omega) m d l[j].f0.f0 (dg l[j].f0.f1) l[j].f1 i s p hq hp) rfl
theorem spec_cc (n : Nat) : ∀ (k : Nat) (l : List SG) (j : Nat) (m : Int) (d : D4) (p : List SD), l.length = j + n → 80000 + n < k → l.length ≤ 1000000 → (∀ g ∈ l, g.f1.length < 1099511627776) → p.length < 1099511627776 →
  spec_ClashOfChain.l0 k l i s t Q p (j : Int) e1 e.1 e.2.1 e.2.2.1 e.2.2.2 m d.1 d.2.1 d.2.2.1 d.2.2.2 = some (ccF i s t Q e1 (l.drop j) m d p) := by
 induction n with
 | zero =>
  intro k l j m d p hl hk hm hg hp
  obtain ⟨k, rfl⟩ : ∃ m, k = m + 2 := ⟨k - 2, by omega⟩
  rw [spec_ClashOfChain.l0, if_neg (by omega), List.drop_of_length_le (by omega)]
  exact bsk (spec_clashPaths (k := k) (by omega) e1 i s p t Q hp hQ) rfl
 | succ n ih =>
  intro k l j m d p hl hk hm hg hp
  obtain ⟨k, rfl⟩ : ∃ m, k = m + 4 := ⟨k - 4, by omega⟩
  have hi : j < l.length := by omega
  have hq := hg _ (List.getElem_mem hi)
  rw [spec_ClashOfChain.l0, if_pos (by omega), if_pos (by omega), rdSG_nat hi, List.drop_eq_getElem_cons hi]
  have hl2 : (lift m l[j].f0.f0 i p l[j].f1).1.length < 1099511627776 := by have := lift_len m l[j].f0.f0 i p l[j].f1; omega
  refine bsk (spec_lift (k := k + 2) (by omega) m l[j].f0.f0 i p l[j].f1 hp hq) ?_
  refine bsk (spec_pathChk (k := k + 3) (by omega) l[j].f0.f0 (dg l[j].f0.f1) i s (lift m l[j].f0.f0 i p l[j].f1).1 hl2) ?_
  rw [ccF]
  by_cases c : pathChk l[j].f0.f0 (dg l[j].f0.f1) i s (lift m l[j].f0.f0 i p l[j].f1).1 = true
  ·rw [if_pos c, if_pos c, step64 (by omega)]
   exact ih (k + 3) l (j + 1) l[j].f0.f0 (dg l[j].f0.f1) _ (by omega) (by omega) hm hg hl2
  ·rw [if_neg c, if_neg c]
   exact bsk (spec_clashG (k := k) (by omega) m d l[j].f0.f0 (dg l[j].f0.f1) l[j].f1 i s p hq hp) rfl
end
def clashC (m : Int) (a : D4) (l : List SG) (i : Int) (s : ByteArray) (p : List SD) (t : ByteArray) (Q : List SD) : ByteArray × ByteArray × Bool :=
 if (chainEnd l m a).2.2.2.2.2 = true then if s.toList = t.toList then (⟨#[]⟩, ⟨#[]⟩, false) else
  if pathChk m a i s p = true then if pathChk (chainEnd l m a).1 ((chainEnd l m a).2.1, (chainEnd l m a).2.2.1, (chainEnd l m a).2.2.2.1, (chainEnd l m a).2.2.2.2.1) i t Q = true then ccF i s t Q (chainEnd l m a).1 l m a p
   else (⟨#[]⟩, ⟨#[]⟩, false) else (⟨#[]⟩, ⟨#[]⟩, false) else (⟨#[]⟩, ⟨#[]⟩, false)
theorem impl_clashC {k : Nat} (hk : 90000 < k) (m : Int) (a : D4) (l : List SG) (i : Int) (s : ByteArray) (p : List SD) (t : ByteArray) (Q : List SD) (hg : ∀ g ∈ l, g.f1.length < 1099511627776) (hp : p.length < 1099511627776) (hQ : Q.length < 1099511627776) :
  impl_ClashOfChain.f k m a.1 a.2.1 a.2.2.1 a.2.2.2 l i s p t Q = some (clashC m a l i s p t Q) := by
 unfold impl_ClashOfChain.f clashC
 have hC := impl_chain (k := k) (by omega) l m a hg
 have h256 := @chain_256 l m a
 refine bsk hC ?_
 generalize chainEnd l m a = E at h256 ⊢
 obtain ⟨k, rfl⟩ : ∃ q, k = q + 1 := ⟨k - 1, by omega⟩
 have hno : impl_ClashOfChain.j0 (k + 1) l i s p t Q true m a.1 a.2.1 a.2.2.1 a.2.2.2 E.1 E.2.1 E.2.2.1 E.2.2.2.1 E.2.2.2.2.1 = some ((⟨#[]⟩ : ByteArray), (⟨#[]⟩ : ByteArray), false) := by rw [impl_ClashOfChain.j0, if_pos rfl]
 by_cases c1 : E.2.2.2.2.2 = true
 ·rw [if_pos c1, if_pos c1]
  have h2 := h256 c1
  by_cases c2 : s.toList = t.toList
  ·rw [if_pos c2, if_pos c2]
   exact hno
  ·rw [if_neg c2, if_neg c2]
   refine bsk (impl_pathChk (k := k + 1) (by omega) m a i s p hp) ?_
   by_cases c3 : pathChk m a i s p = true
   ·rw [if_pos c3, if_pos c3]
    refine bsk (impl_pathChk (k := k + 1) (by omega) E.1 (E.2.1, E.2.2.1, E.2.2.2.1, E.2.2.2.2.1) i t Q hQ) ?_
    by_cases c4 : pathChk E.1 (E.2.1, E.2.2.1, E.2.2.2.1, E.2.2.2.2.1) i t Q = true
    ·rw [if_pos c4, c4, impl_ClashOfChain.j0, if_neg (by simp)]
     have := impl_cc i s t Q hQ E.1 (E.2.1, E.2.2.1, E.2.2.2.1, E.2.2.2.2.1) l.length k l 0 m a p (by omega) (by omega) (by omega) hg hp
     rw [List.drop_zero] at this
     exact this
    ·rw [if_neg c4, Bool.eq_false_iff.mpr c4]
     exact hno
   ·rw [if_neg c3, if_neg c3]
    exact hno
 ·rw [if_neg c1, if_neg c1]
  exact hno
theorem spec_clashC {k : Nat} (hk : 90000 < k) (m : Int) (a : D4) (l : List SG) (i : Int) (s : ByteArray) (p : List SD) (t : ByteArray) (Q : List SD) (hg : ∀ g ∈ l, g.f1.length < 1099511627776) (hp : p.length < 1099511627776) (hQ : Q.length < 1099511627776) :
  spec_ClashOfChain.f k m a.1 a.2.1 a.2.2.1 a.2.2.2 l i s p t Q = some (clashC m a l i s p t Q) := by
 unfold spec_ClashOfChain.f clashC
 have hC := spec_chain (k := k) (by omega) l m a hg
 have h256 := @chain_256 l m a
 refine bsk hC ?_
 generalize chainEnd l m a = E at h256 ⊢
 obtain ⟨k, rfl⟩ : ∃ q, k = q + 1 := ⟨k - 1, by omega⟩
 have hno : spec_ClashOfChain.j0 (k + 1) l i s p t Q true m a.1 a.2.1 a.2.2.1 a.2.2.2 E.1 E.2.1 E.2.2.1 E.2.2.2.1 E.2.2.2.2.1 = some ((⟨#[]⟩ : ByteArray), (⟨#[]⟩ : ByteArray), false) := by rw [spec_ClashOfChain.j0, if_pos rfl]
 by_cases c1 : E.2.2.2.2.2 = true
 ·rw [if_pos c1, if_pos c1]
  have h2 := h256 c1
  by_cases c2 : s.toList = t.toList
  ·rw [if_pos c2, if_pos c2]
   exact hno
  ·rw [if_neg c2, if_neg c2]
   refine bsk (spec_pathChk (k := k + 1) (by omega) m a i s p hp) ?_
   by_cases c3 : pathChk m a i s p = true
   ·rw [if_pos c3, if_pos c3]
    refine bsk (spec_pathChk (k := k + 1) (by omega) E.1 (E.2.1, E.2.2.1, E.2.2.2.1, E.2.2.2.2.1) i t Q hQ) ?_
    by_cases c4 : pathChk E.1 (E.2.1, E.2.2.1, E.2.2.2.1, E.2.2.2.2.1) i t Q = true
    ·rw [if_pos c4, c4, spec_ClashOfChain.j0, if_neg (by simp)]
     have := spec_cc i s t Q hQ E.1 (E.2.1, E.2.2.1, E.2.2.2.1, E.2.2.2.2.1) l.length k l 0 m a p (by omega) (by omega) (by omega) hg hp
     rw [List.drop_zero] at this
     exact this
    ·rw [if_neg c4, Bool.eq_false_iff.mpr c4]
     exact hno
   ·rw [if_neg c3, if_neg c3]
    exact hno
 ·rw [if_neg c1, if_neg c1]
  exact hno
end
end Go.Proofs.Ytflckegggopdnaa.Q
namespace Go.Proofs.Ytflckegggopdnaa.Pure
section
open Go.RowKit Go.Proofs.Ytflckegggopdnaa.Opening Go.Proofs.Ytflckegggopdnaa.B Go.Proofs.Ytflckegggopdnaa.Q Go.Proofs.YtflckegggopdnaaW
theorem eqClash_self (a b : ByteArray) : laws_eqClash.f a b a b = some true := by
 unfold laws_eqClash.f
 rw [if_pos rfl, if_pos rfl]
theorem clashOfChain_at (k : Nat) (hk : 2199023255552 < k) (m : Int) (a : D4) (gs : List LG) (i : Int) (s : ByteArray) (l : List LD) (t : ByteArray) (q : List LD) (hgl : gs.length ≤ 9223372036854775807) (hg : ∀ g ∈ gs, g.f1.length ≤ 9223372036854775807) (h : l.length ≤ 9223372036854775807) (hq : q.length ≤ 9223372036854775807) : laws_FnExactClashOfChain.f (k + 1) m a.1 a.2.1 a.2.2.1 a.2.2.2 gs i s l t q = some true := by
 unfold laws_FnExactClashOfChain.f
 by_cases h1 : (s.size : Int) > 1048576
 ·rw [if_pos h1]
 rw [if_neg h1]
 by_cases h1' : (t.size : Int) > 1048576
 ·rw [if_pos h1']
 rw [if_neg h1']
 obtain ⟨r, hr, hb⟩ := szGrows (k := k + 1) gs (by omega) hgl hg
 refine bsk hr ?_
 by_cases c : r < 0
 ·rw [if_pos c]
 rw [if_neg c]
 obtain ⟨r0, r1, g1, g2⟩ : 0 ≤ r ∧ r ≤ 1048576 ∧ gs.length ≤ 1048576 ∧ ∀ g ∈ gs, g.f1.length ≤ 1048576 := by
  rcases hb with hb | hb
  ·exact absurd hb c
  ·exact hb
 obtain ⟨r', hr', hb'⟩ := szDigs l r h r0 r1
 refine bsk hr' ?_
 by_cases c2 : r' < 0
 ·rw [if_pos c2]
 rw [if_neg c2]
 obtain ⟨r'', hr'', hb''⟩ := szDigs q r' hq (by omega) (by omega)
 refine bsk hr'' ?_
 by_cases c3 : r'' < 0
 ·rw [if_pos c3]
 rw [if_neg c3]
 have hl : l.length < 1099511627776 := by omega
 have hl2 : (l.map conv).length < 1099511627776 := by simpa using hl
 have hq1 : q.length < 1099511627776 := by omega
 have hq2 : (q.map conv).length < 1099511627776 := by simpa using hq1
 have g3 := convG_len g2
 have g4 : ∀ g ∈ gs.map convG, g.f1.length < 1099511627776 := fun g hx => by have := g3 g hx; omega
 have ep : laws_toPoint.f m a.1 a.2.1 a.2.2.1 a.2.2.2 = some (m, a) := rfl
 have T1 := toGrows (k := k + 1) gs (by omega) g1 g2
 have T2 := toDigs (k := k + 1) l (by omega) hl
 have T3 := toDigs (k := k + 1) q (by omega) hq1
 refine bsk ep (bsk T1 (bsk T2 (bsk T3 (bsk (spec_clashC (k := k + 1) (by omega) m a (gs.map convG) i s (l.map conv) t (q.map conv) g4 hl2 hq2) (bsk T1 (bsk T2 (bsk T3 (bsk ep (bsk (impl_clashC (k := k + 1) (by omega) m a (gs.map convG) i s (l.map conv) t (q.map conv) g4 hl2 hq2) (bsk (eqClash_self _ _) ?_))))))))))
 rw [if_pos rfl, bne_self_eq_false, laws_FnExactClashOfChain.j0, if_neg (by simp)]
 refine bsk (toGrows (k := k) gs (by omega) g1 g2) (bsk (eqGrows _ (by omega) (by simpa using g1) g3) ?_)
 rw [if_pos rfl]
 refine bsk (toDigs (k := k) l (by omega) hl) (bsk (eqDigs _ (by omega) hl2) ?_)
 rw [if_pos rfl]
 refine bsk (toDigs (k := k) q (by omega) hq1) (bsk (eqDigs _ (by omega) hq2) ?_)
 rw [if_pos rfl]
theorem FnExactClashOfChain (y0 : S26) (y1 : List LG) (y2 : Int) (y3 : ByteArray) (y4 : List LD) (y5 : ByteArray) (y6 : List LD) (h0 : ok26 y0) (h1 : y1.length ≤ 9223372036854775807 ∧ ∀ y_ ∈ y1, ok42 y_) (h2 : (Lit.int .i64 y2).wf = true) (h3 : y3.size ≤ 9223372036854775807) (h4 : y4.length ≤ 9223372036854775807 ∧ ∀ y_ ∈ y4, ok24 y_) (h5 : y5.size ≤ 9223372036854775807) (h6 : y6.length ≤ 9223372036854775807 ∧ ∀ y_ ∈ y6, ok24 y_) : ∃ k, laws_FnExactClashOfChain.f k (y0.f0) (y0.f1.f0) (y0.f1.f1) (y0.f1.f2) (y0.f1.f3) y1 y2 y3 y4 y5 y6 = some true :=
 ⟨2199023255553 + 1, clashOfChain_at _ (by omega) y0.f0 (y0.f1.f0, y0.f1.f1, y0.f1.f2, y0.f1.f3) y1 y2 y3 y4 y5 y6 h1.1 (fun g hg => (h1.2 g hg).2.1) h4.1 h6.1⟩
end
end Go.Proofs.Ytflckegggopdnaa.Pure
