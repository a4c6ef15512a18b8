/- The old and the new nodes of a growth as plain lists; GrowthLen of the program and of the reference come to their lengths. No condition. -/
import Derived.Test.YtflckegggopdnaaQWay
import Derived.Test.YtflckegggopdnaaQCount
import Derived.Test.YtflckegggopdnaaGFall1
namespace Go.Proofs.Ytflckegggopdnaa.Q
open Go.RowKit Go.Proofs.Ytflckegggopdnaa.B Go.Proofs.YtflckegggopdnaaW.PrintWords Go.Proofs.YtflckegggopdnaaW.PrintLast Go.Proofs.YtflckegggopdnaaW.PrintMore
/-- The greatest nodes from lo to hi that lie ahead of m, and those from m on. -/
def fallF : Nat → Nat → Nat → Nat → List NO × List NO
  | 0, _, _, _ => ([], [])
  | f + 1, lo, hi, m => if hi ≤ m then ([⟨(lo : Int), (hi : Int)⟩], []) else if m ≤ lo then ([], [⟨(lo : Int), (hi : Int)⟩]) else
      ((fallF f lo (lo + spl (hi - lo)) m).1 ++ (fallF f (lo + spl (hi - lo)) hi m).1, (fallF f lo (lo + spl (hi - lo)) m).2 ++ (fallF f (lo + spl (hi - lo)) hi m).2)
theorem fall_len (f : Nat) : ∀ (lo hi m : Nat), hi - lo ≤ f → hi ≤ 256 → lo < hi → (fallF f lo hi m).1.length + (fallF f lo hi m).2.length ≤ hi - lo := by
  induction f with
  | zero => intro lo hi m h; simp [fallF]
  | succ f ih =>
    intro lo hi m h h1 h2
    simp only [fallF]
    by_cases ha : hi ≤ m
    · rw [if_pos ha]; simp; omega
    · rw [if_neg ha]
      by_cases hb : m ≤ lo
      · rw [if_pos hb]; simp; omega
      · rw [if_neg hb]
        have hs := spl_lt (n := hi - lo) (by omega) (by omega)
        have i1 := ih lo (lo + spl (hi - lo)) m (by omega) (by omega) (by omega)
        have i2 := ih (lo + spl (hi - lo)) hi m (by omega) (by omega) (by omega)
        simp only [List.length_append]
        omega
theorem fall_l (f : Nat) : ∀ (k lo hi m : Nat) (a b : List NO), hi - lo ≤ f → lo < hi → hi ≤ 256 → f + 9 ≤ k → a.length + (hi - lo) ≤ 1000000 → b.length + (hi - lo) ≤ 1000000 → impl_fall.f k (lo : Int) (hi : Int) (m : Int) a b = some (a ++ (fallF f lo hi m).1, b ++ (fallF f lo hi m).2) := by
  induction f with
  | zero => intro k lo hi m a b h h0; omega
  | succ f ih =>
    intro k lo hi m a b h h0 h1 hk ha hb
    obtain ⟨k, rfl⟩ : ∃ m, k = m + 1 := ⟨k - 1, by omega⟩
    simp only [impl_fall.f, fallF]
    by_cases c1 : hi ≤ m
    · rw [if_pos (by omega), if_pos (by omega), if_pos c1]
      simp
    · rw [if_neg (by omega), if_neg c1]
      by_cases c2 : m ≤ lo
      · rw [if_pos (by omega), if_pos (by omega), if_pos c2]
        simp
      · rw [if_neg (by omega), if_neg c2]
        have hs := spl_lt (n := hi - lo) (by omega) (by omega)
        have l1 := fall_len f lo (lo + spl (hi - lo)) m (by omega) (by omega) (by omega)
        rw [halves (by omega) (by omega) h1]
        simp only [Option.bind_some]
        rw [ih _ _ _ _ _ _ (by omega) (by omega) (by omega) (by omega) (by omega) (by omega)]
        simp only [Option.bind_some]
        rw [ih _ _ _ _ _ _ (by omega) (by omega) (by omega) (by omega) (by simp; omega) (by simp; omega)]
        simp
/-- The old and the new nodes of a growth from m to n. -/
def grow (m n : Nat) : List NO × List NO := fallF n 0 n m
theorem impl_nodes {k m n : Nat} (hk : 300 ≤ k) (h0 : 0 < n) (h : n ≤ 256) : impl_growthNodes.f k (m : Int) (n : Int) = some (grow m n) := by
  unfold impl_growthNodes.f
  have := fall_l n k 0 n m [] [] (by omega) h0 h (by omega) (by simp; omega) (by simp; omega)
  rw [show ((0 : Nat) : Int) = 0 by rfl] at this
  rw [this]
  rfl
theorem rests_l (f : Nat) : ∀ (k lo hi m n : Nat), hi - lo ≤ f → lo < hi → hi ≤ n → n ≤ 256 → 2 * f + 10 ≤ k → spec_l3Rests.f k (lo : Int) (hi : Int) (m : Int) (n : Int) = some (((fallF f lo hi m).2.length : Nat) : Int) := by
  induction f with
  | zero => intro k lo hi m n h h0; omega
  | succ f ih =>
    intro k lo hi m n h h0 h1 h2 hk
    obtain ⟨k, rfl⟩ : ∃ m, k = m + 2 := ⟨k - 2, by omega⟩
    simp only [spec_l3Rests.f, spec_l3Rests.j0, fallF]
    by_cases c1 : hi ≤ m
    · rw [if_pos (by omega), if_pos c1]
      simp
    · rw [if_neg (by omega), if_neg c1]
      by_cases c2 : m ≤ lo
      · rw [if_pos c2, if_neg (by simp; omega), if_pos (by omega)]
        simp
      · rw [if_neg c2, if_neg (by simp; omega), if_neg (by omega)]
        have hs := spl_lt (n := hi - lo) (by omega) (by omega)
        have l1 := fall_len f lo (lo + spl (hi - lo)) m (by omega) (by omega) (by omega)
        have l2 := fall_len f (lo + spl (hi - lo)) hi m (by omega) (by omega) (by omega)
        rw [show wrap64 ((hi : Int) - (lo : Int)) = ((hi - lo : Nat) : Int) by unfold wrap64; omega, spec_split (by omega) (by omega) (by omega)]
        simp only [Option.bind_some]
        rw [show wrap64 ((lo : Int) + ((spl (hi - lo) : Nat) : Int)) = ((lo + spl (hi - lo) : Nat) : Int) by unfold wrap64; omega]
        rw [ih _ _ _ _ _ (by omega) (by omega) (by omega) (by omega) (by omega)]
        simp only [Option.bind_some]
        rw [ih _ _ _ _ _ (by omega) (by omega) (by omega) (by omega) (by omega)]
        simp only [Option.bind_some, List.length_append]
        congr 1
        unfold wrap64
        omega
theorem pc_add : ∀ e : Fin 8, ∀ x : Fin 129, x.val < 2 ^ e.val → pc 9 (2 ^ e.val + x.val) = 1 + pc 9 x.val := by decide +kernel
theorem fall_zero (f : Nat) : ∀ (lo hi m : Nat), hi - lo ≤ f → hi ≤ 256 → lo < hi → m ≤ lo → (fallF f lo hi m).1.length = 0 := by
  intro lo hi m h h1 h2 h3
  obtain ⟨f, rfl⟩ : ∃ g, f = g + 1 := ⟨f - 1, by omega⟩
  simp only [fallF]
  rw [if_neg (by omega), if_pos h3]
  rfl
theorem fall_one (f : Nat) : ∀ (lo hi m : Nat), hi - lo ≤ f → lo < hi → hi ≤ m → (fallF f lo hi m).1.length = 1 := by
  intro lo hi m h h1 h3
  obtain ⟨f, rfl⟩ : ∃ g, f = g + 1 := ⟨f - 1, by omega⟩
  simp only [fallF]
  rw [if_pos h3]
  rfl
theorem fall_old (f : Nat) : ∀ (lo hi m : Nat), hi - lo ≤ f → hi ≤ 256 → lo < m → m < hi → (fallF f lo hi m).1.length = popc (m - lo) := by
  induction f with
  | zero => intro lo hi m h h1 h2 h3; omega
  | succ f ih =>
    intro lo hi m h h1 h2 h3
    simp only [fallF]
    rw [if_neg (by omega), if_neg (by omega)]
    obtain ⟨e, he, h4, h5, h6⟩ := spl_is (n := hi - lo) (by omega) (by omega)
    have hs := spl_lt (n := hi - lo) (by omega) (by omega)
    rw [Nat.pow_succ] at h5
    simp only [List.length_append]
    rcases Nat.lt_trichotomy m (lo + spl (hi - lo)) with c | c | c
    · rw [ih _ _ _ (by omega) (by omega) h2 c, fall_zero f _ _ _ (by omega) (by omega) (by omega) (by omega)]
      rfl
    · rw [fall_one f _ _ _ (by omega) (by omega) (by omega), fall_zero f _ _ _ (by omega) (by omega) (by omega) (by omega)]
      have := pc_add ⟨e, by omega⟩ ⟨0, by omega⟩ (Nat.pow_pos (by omega))
      simp only [Nat.add_zero] at this
      rw [show m - lo = 2 ^ e by omega, popc, this]
      rfl
    · rw [fall_one f _ _ _ (by omega) (by omega) (by omega), ih _ _ _ (by omega) h1 c h3]
      have h7 : m - (lo + spl (hi - lo)) < 2 ^ e := by omega
      have h8 : (2 : Nat) ^ e ≤ 2 ^ 7 := Nat.pow_le_pow_right (by omega) h6
      have := pc_add ⟨e, by omega⟩ ⟨m - (lo + spl (hi - lo)), by omega⟩ h7
      rw [show m - lo = 2 ^ e + (m - (lo + spl (hi - lo))) by omega, popc, popc, this]
/-- How many digests the proof of a growth has. -/
def growLen (m n : Int) : Int := if 0 ≤ m ∧ m ≤ n ∧ n ≤ 256 then (if m = 0 ∨ m = n then 0 else (((grow m.toNat n.toNat).1.length + (grow m.toNat n.toNat).2.length : Nat) : Int)) else -1
theorem impl_growLen {k : Nat} (hk : 300 ≤ k) (m n : Int) : impl_GrowthLen.f k m n = some (growLen m n) := by
  unfold impl_GrowthLen.f impl_mayGrow.f growLen
  rw [impl_in]
  simp only [Option.bind_some]
  by_cases h : 0 ≤ n ∧ n ≤ 256
  · rw [if_pos (by simp; omega), impl_in]
    simp only [Option.bind_some]
    by_cases h2 : 0 ≤ m ∧ m ≤ n
    · rw [if_pos (by simp; omega), if_pos (show 0 ≤ m ∧ m ≤ n ∧ n ≤ 256 by omega)]
      by_cases c : m = 0
      · rw [if_pos c, if_pos (Or.inl c)]
      · rw [if_neg c]
        by_cases c2 : m = n
        · rw [if_pos c2, if_pos (Or.inr c2)]
        · rw [if_neg c2, if_neg (by omega)]
          have := impl_nodes (m := m.toNat) (n := n.toNat) hk (by omega) (by omega)
          rw [show ((m.toNat : Nat) : Int) = m by omega, show ((n.toNat : Nat) : Int) = n by omega] at this
          rw [this]
          simp only [Option.bind_some]
          have := fall_len n.toNat 0 n.toNat m.toNat (by omega) (by omega) (by omega)
          unfold grow
          generalize (fallF n.toNat 0 n.toNat m.toNat).1.length = A at *
          generalize (fallF n.toNat 0 n.toNat m.toNat).2.length = B at *
          unfold wrap64
          refine congrArg some ?_
          omega
    · rw [if_neg (by simp; omega), if_neg (by omega)]
  · rw [if_neg (by simp; omega), if_neg (show ¬ (0 ≤ m ∧ m ≤ n ∧ n ≤ 256) by omega)]
    rfl
theorem spec_growLen {k : Nat} (hk : 600 ≤ k) (m n : Int) : spec_GrowthLen.f k m n = some (growLen m n) := by
  obtain ⟨k, rfl⟩ : ∃ m, k = m + 1 := ⟨k - 1, by omega⟩
  unfold spec_GrowthLen.f spec_l3Sizes.f growLen
  rw [spec_in]
  simp only [Option.bind_some]
  by_cases h2 : 0 ≤ m ∧ m ≤ n
  · rw [if_pos (by simp; omega)]
    simp only [Option.bind_some]
    by_cases h : n ≤ 256
    · rw [if_pos (by simp; omega), if_pos (show 0 ≤ m ∧ m ≤ n ∧ n ≤ 256 by omega)]
      by_cases c : m = 0
      · rw [if_pos c, if_pos (Or.inl c)]
        simp [spec_GrowthLen.j0]
      · rw [if_neg c]
        by_cases c2 : m = n
        · rw [if_pos (Or.inr c2)]
          simp [spec_GrowthLen.j0, c2]
        · rw [if_neg (by omega)]
          have e0 : (m == n) = false := by simpa using c2
          simp only [spec_GrowthLen.j0, e0]
          rw [if_neg (by simp)]
          have h1 := rests_l n.toNat k 0 n.toNat m.toNat n.toNat (by omega) (by omega) (by omega) (by omega) (by omega)
          have h3 := spec_count (k := k) (n := m.toNat) (by omega) (by omega)
          rw [show ((m.toNat : Nat) : Int) = m by omega] at h1 h3
          rw [show ((n.toNat : Nat) : Int) = n by omega, show ((0 : Nat) : Int) = 0 by rfl] at h1
          rw [h3]
          simp only [Option.bind_some]
          rw [h1]
          simp only [Option.bind_some]
          have h4 := fall_old n.toNat 0 n.toNat m.toNat (by omega) (by omega) (by omega) (by omega)
          have := fall_len n.toNat 0 n.toNat m.toNat (by omega) (by omega) (by omega)
          rw [show m.toNat - 0 = m.toNat by omega] at h4
          unfold grow
          generalize (fallF n.toNat 0 n.toNat m.toNat).1.length = A at *
          generalize (fallF n.toNat 0 n.toNat m.toNat).2.length = B at *
          unfold wrap64
          refine congrArg some ?_
          omega
    · rw [if_neg (by simp; omega), if_neg (by omega)]
  · rw [if_neg (by simp; omega), if_neg (show ¬ (0 ≤ m ∧ m ≤ n ∧ n ≤ 256) by omega)]
    rfl
end Go.Proofs.Ytflckegggopdnaa.Q
