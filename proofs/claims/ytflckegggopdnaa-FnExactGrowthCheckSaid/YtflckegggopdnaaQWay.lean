/- The way from the whole tree down to a leaf as a plain list of nodes; PathLen of the program and of the reference come to its length. No condition. -/
import Derived.Test.YtflckegggopdnaaQSplit
import Derived.Test.YtflckegggopdnaaGWay1
namespace Go.Proofs.Ytflckegggopdnaa.Q
open Go.RowKit Go.Proofs.Ytflckegggopdnaa.B Go.Proofs.YtflckegggopdnaaW.PrintWords Go.Proofs.YtflckegggopdnaaW.PrintLast Go.Proofs.YtflckegggopdnaaW.PrintMore
abbrev NO := S100
/-- The nodes of two leaves and more from lo to hi that leaf i is in, the greatest first. -/
def wayF : Nat → Nat → Nat → Nat → List NO
  | 0, _, _, _ => []
  | f + 1, i, lo, hi => if hi - lo ≤ 1 then [] else
      (⟨(lo : Int), (hi : Int)⟩ : NO) :: (if i < lo + spl (hi - lo) then wayF f i lo (lo + spl (hi - lo)) else wayF f i (lo + spl (hi - lo)) hi)
theorem halves {k lo hi : Nat} (hk : 8 ≤ k) (h0 : lo + 2 ≤ hi) (h1 : hi ≤ 256) : impl_node_halves.f k (lo : Int) (hi : Int) = some ((lo : Int), ((lo + spl (hi - lo) : Nat) : Int), ((lo + spl (hi - lo) : Nat) : Int), (hi : Int)) := by
  unfold impl_node_halves.f
  have hs := spl_lt (n := hi - lo) (by omega) (by omega)
  rw [show wrap64 ((hi : Int) - (lo : Int)) = ((hi - lo : Nat) : Int) by unfold wrap64; omega, impl_split hk (by omega) (by omega)]
  simp only [Option.bind_some]
  rw [show wrap64 ((lo : Int) + ((spl (hi - lo) : Nat) : Int)) = ((lo + spl (hi - lo) : Nat) : Int) by unfold wrap64; omega]
theorem way_l (f : Nat) : ∀ (k i lo hi : Nat) (acc : List NO), hi - lo ≤ f → lo ≤ hi → hi ≤ 256 → f + 9 ≤ k → acc.length + f ≤ 1000000 → impl_way.l0 k (i : Int) acc (lo : Int) (hi : Int) = some (acc ++ wayF f i lo hi) := by
  induction f with
  | zero =>
    intro k i lo hi acc hf h0 h1 hk ha
    obtain ⟨k, rfl⟩ : ∃ m, k = m + 1 := ⟨k - 1, by omega⟩
    simp only [impl_way.l0, wayF]
    rw [if_neg (by unfold wrap64; omega)]
    simp
  | succ f ih =>
    intro k i lo hi acc hf h0 h1 hk ha
    obtain ⟨k, rfl⟩ : ∃ m, k = m + 1 := ⟨k - 1, by omega⟩
    simp only [impl_way.l0, wayF]
    by_cases h : hi - lo ≤ 1
    · rw [if_neg (by unfold wrap64; omega), if_pos h]
      simp
    · have hs := spl_lt (n := hi - lo) (by omega) (by omega)
      rw [if_pos (by unfold wrap64; omega), if_neg h, if_pos (by omega), halves (by omega) (by omega) h1]
      simp only [Option.bind_some]
      by_cases hi' : i < lo + spl (hi - lo)
      · rw [if_pos (by omega), if_pos hi', ih _ _ _ _ _ (by omega) (by omega) (by omega) (by omega) (by simp; omega)]
        simp
      · rw [if_neg (by omega), if_neg hi', ih _ _ _ _ _ (by omega) (by omega) (by omega) (by omega) (by simp; omega)]
        simp
theorem wayF_len (f : Nat) : ∀ (i lo hi : Nat), hi - lo ≤ f → (wayF f i lo hi).length ≤ f := by
  induction f with
  | zero => intro i lo hi h; simp [wayF]
  | succ f ih =>
    intro i lo hi h
    simp only [wayF]
    by_cases h1 : hi - lo ≤ 1
    · rw [if_pos h1]; simp
    · rw [if_neg h1]
      by_cases h256 : hi - lo ≤ 256
      · have hs := spl_lt (n := hi - lo) (by omega) h256
        split <;> simp only [List.length_cons] <;> refine Nat.succ_le_succ (ih _ _ _ (by omega))
      · split <;> simp only [List.length_cons] <;> refine Nat.succ_le_succ ?_
        all_goals exact wayF_len' f _ _ _
where
  wayF_len' : ∀ (f i lo hi : Nat), (wayF f i lo hi).length ≤ f
    | 0, _, _, _ => by simp [wayF]
    | f + 1, i, lo, hi => by
      simp only [wayF]
      split
      · simp
      · split <;> simp only [List.length_cons] <;> exact Nat.succ_le_succ (wayF_len' f _ _ _)
/-- The way to leaf i of n. -/
def way (n i : Nat) : List NO := wayF n i 0 n
theorem impl_way {k n i : Nat} (hk : 300 ≤ k) (h : n ≤ 256) : impl_way.f k (n : Int) (i : Int) = some (way n i) := by
  unfold impl_way.f
  have := way_l n k i 0 n [] (by omega) (by omega) h (by omega) (by simp; omega)
  simpa [way] using this
theorem path_l (f : Nat) : ∀ (k i lo hi d : Nat), hi - lo ≤ f → lo ≤ hi → lo ≤ i → i ≤ 256 → hi ≤ 256 → f + 9 ≤ k → d + f ≤ 1000000 → spec_PathLen.l0 k ((hi - lo : Nat) : Int) ((i - lo : Nat) : Int) (d : Int) = some ((d + (wayF f i lo hi).length : Nat) : Int) := by
  induction f with
  | zero =>
    intro k i lo hi d hf h0 hi0 hi1 h1 hk ha
    obtain ⟨k, rfl⟩ : ∃ m, k = m + 1 := ⟨k - 1, by omega⟩
    simp only [spec_PathLen.l0, wayF]
    rw [if_neg (by omega)]
    simp
  | succ f ih =>
    intro k i lo hi d hf h0 hi0 hi1 h1 hk ha
    obtain ⟨k, rfl⟩ : ∃ m, k = m + 1 := ⟨k - 1, by omega⟩
    simp only [spec_PathLen.l0, wayF]
    by_cases h : hi - lo ≤ 1
    · rw [if_neg (by omega), if_pos h]
      simp
    · have hs := spl_lt (n := hi - lo) (by omega) (by omega)
      rw [if_pos (by omega), if_neg h, spec_split (by omega) (by omega) (by omega)]
      simp only [Option.bind_some]
      rw [show wrap64 ((d : Int) + 1) = ((d + 1 : Nat) : Int) by unfold wrap64; omega]
      by_cases hi' : i < lo + spl (hi - lo)
      · rw [if_pos (by omega), if_pos hi']
        have := ih k i lo (lo + spl (hi - lo)) (d + 1) (by omega) (by omega) hi0 hi1 (by omega) (by omega) (by omega)
        rw [show lo + spl (hi - lo) - lo = spl (hi - lo) by omega] at this
        rw [this]
        simp only [List.length_cons]
        congr 2
        omega
      · rw [if_neg (by omega), if_neg hi', show wrap64 (((hi - lo : Nat) : Int) - ((spl (hi - lo) : Nat) : Int)) = ((hi - (lo + spl (hi - lo)) : Nat) : Int) by unfold wrap64; omega,
          show wrap64 (((i - lo : Nat) : Int) - ((spl (hi - lo) : Nat) : Int)) = ((i - (lo + spl (hi - lo)) : Nat) : Int) by unfold wrap64; omega]
        rw [ih k i (lo + spl (hi - lo)) hi (d + 1) (by omega) (by omega) (by omega) hi1 h1 (by omega) (by omega)]
        simp only [List.length_cons]
        congr 2
        omega
/-- How long a leaf's path is; -1 where there is none. -/
def pathLen (a b : Int) : Int := if 1 ≤ a ∧ a ≤ 256 ∧ 0 ≤ b ∧ b < a then ((way a.toNat b.toNat).length : Int) else -1
theorem spec_pathLen {k : Nat} (hk : 300 ≤ k) (a b : Int) : spec_PathLen.f k a b = some (pathLen a b) := by
  unfold spec_PathLen.f spec_l3Place.f pathLen
  rw [spec_in]
  simp only [Option.bind_some]
  by_cases h : 1 ≤ a ∧ a ≤ 256
  · rw [if_pos (by simp; omega), spec_in]
    simp only [Option.bind_some]
    rw [show wrap64 (a - 1) = a - 1 by unfold wrap64; omega]
    by_cases h2 : 0 ≤ b ∧ b < a
    · rw [if_pos (by simp; omega), if_pos (by omega)]
      have := path_l a.toNat k b.toNat 0 a.toNat 0 (by omega) (by omega) (by omega) (by omega) (by omega) (by omega) (by omega)
      rw [show ((a.toNat - 0 : Nat) : Int) = a by omega, show ((b.toNat - 0 : Nat) : Int) = b by omega] at this
      rw [show (0 : Int) = ((0 : Nat) : Int) by rfl, this]
      simp [way]
    · rw [if_neg (by simp; omega), if_neg (by omega)]
  · rw [if_neg (by simp; omega), if_neg (by omega)]
    simp
theorem impl_pathLen {k : Nat} (hk : 300 ≤ k) (a b : Int) : impl_PathLen.f k a b = some (pathLen a b) := by
  unfold impl_PathLen.f pathLen
  rw [impl_in]
  simp only [Option.bind_some]
  by_cases h : 1 ≤ a ∧ a ≤ 256
  · rw [if_pos (by simp; omega), impl_in]
    simp only [Option.bind_some]
    rw [show wrap64 (a - 1) = a - 1 by unfold wrap64; omega]
    by_cases h2 : 0 ≤ b ∧ b < a
    · rw [if_pos (by simp; omega), if_pos (by omega)]
      have := impl_way (n := a.toNat) (i := b.toNat) hk (by omega)
      rw [show ((a.toNat : Nat) : Int) = a by omega, show ((b.toNat : Nat) : Int) = b by omega] at this
      rw [this]
      rfl
    · rw [if_neg (by simp; omega), if_neg (by omega)]
  · rw [if_neg (by simp; omega), if_neg (by omega)]
end Go.Proofs.Ytflckegggopdnaa.Q
