/- A drawn leaf's path, lifted over a growth, is its path: the plain law behind FnLifted. No condition. -/
import Derived.Lib.EndianBits
import Derived.KernelRfl
import Derived.Test.YtflckegggopdnaaZLFLawsFnLifted
import Derived.Test.YtflckegggopdnaaZLOpens
import Derived.Test.YtflckegggopdnaaZLK
import Derived.Test.YtflckegggopdnaaZLGSplit1
import Derived.Test.YtflckegggopdnaaZLGWay1
import Derived.Test.YtflckegggopdnaaZLM
import Derived.Test.YtflckegggopdnaaZLGFall1
import Derived.Test.YtflckegggopdnaaZLHLook
import Derived.Test.YtflckegggopdnaaZLGImplHash1
import Derived.Test.YtflckegggopdnaaZLGSpecHash1
import Derived.Test.YtflckegggopdnaaZLGImplPair1
import Derived.Test.YtflckegggopdnaaZLGSpecPair1
import Derived.Test.YtflckegggopdnaaZLGTree1
import Derived.Test.YtflckegggopdnaaZLHCopiedD
import Derived.Test.YtflckegggopdnaaZLFImplKnown
import Derived.Test.YtflckegggopdnaaZLFImplDigestBy
import Derived.Test.YtflckegggopdnaaZLGEq1
import Derived.Test.YtflckegggopdnaaZLFImplGrowthOf
import Derived.Test.YtflckegggopdnaaZLFImplGrowthLift
import Derived.Test.YtflckegggopdnaaZLFImplPathOf
import Derived.Test.YtflckegggopdnaaZLFSpecPathOf
import Derived.Test.YtflckegggopdnaaZLGL11
import Derived.Test.YtflckegggopdnaaZLFSpecL2RdSome
import Derived.Test.YtflckegggopdnaaZLFSpecDrawGrowthOf
section
namespace Go.Proofs.Ytflckegggopdnaa.Q
open Go.RowKit Go.Proofs.Ytflckegggopdnaa.B Go.Proofs.YtflckegggopdnaaW.PrintWords Go.Proofs.YtflckegggopdnaaW.PrintLast
theorem w64 {x : Int} (h0 : -9223372036854775808 ≤ x) (h1 : x ≤ 9223372036854775807) : wrap64 x = x := by unfold wrap64; omega
def splAux : Nat → Nat → Nat → Nat
  | 0, _, c => c
  | f + 1, n, c => if 2 * c < n then splAux f n (2 * c) else c
def spl (n : Nat) : Nat := splAux 7 n 1
theorem twice (c f : Nat) : 2 * (2 * c) * 2 ^ f = 2 * c * 2 ^ (f + 1) := by rw [Nat.pow_succ]; ac_rfl
theorem splAux_is (f : Nat) : ∀ (n c j : Nat), c = 2 ^ j → c < n → n ≤ 2 * c * 2 ^ f → ∃ e, splAux f n c = 2 ^ e ∧ 2 ^ e < n ∧ n ≤ 2 ^ (e + 1) ∧ e ≤ j + f := by
  induction f with
  | zero => intro n c j hc h1 h2; exact ⟨j, hc, by omega, by rw [Nat.pow_succ]; omega, by omega⟩
  | succ f ih =>
    intro n c j hc h1 h2
    unfold splAux
    by_cases h : 2 * c < n
    · rw [if_pos h]
      obtain ⟨e, he, h3, h4, h5⟩ := ih n (2 * c) (j + 1) (by rw [hc, Nat.pow_succ]; omega) h (by rw [twice]; exact h2)
      exact ⟨e, he, h3, h4, by omega⟩
    · rw [if_neg h]
      exact ⟨j, hc, by omega, by rw [Nat.pow_succ]; omega, by omega⟩
theorem spl_is {n : Nat} (h0 : 2 ≤ n) (h1 : n ≤ 256) : ∃ e, spl n = 2 ^ e ∧ 2 ^ e < n ∧ n ≤ 2 ^ (e + 1) ∧ e ≤ 7 := by
  obtain ⟨e, h⟩ := splAux_is 7 n 1 0 rfl (by omega) (by omega)
  exact ⟨e, h.1, h.2.1, h.2.2.1, by have := h.2.2.2; omega⟩
theorem spl_lt {n : Nat} (h0 : 2 ≤ n) (h1 : n ≤ 256) : 1 ≤ spl n ∧ spl n < n ∧ n ≤ 2 * spl n := by
  obtain ⟨e, he, h2, h3, _⟩ := spl_is h0 h1
  rw [Nat.pow_succ] at h3
  have : 0 < 2 ^ e := Nat.pow_pos (by omega)
  omega
theorem spec_split_l (f : Nat) : ∀ (k n c : Nat), f < k → n ≤ 2 * c * 2 ^ f → n ≤ 256 → c ≤ 256 → spec_TreeSplit.l0 k (n : Int) (c : Int) = some ((splAux f n c : Nat) : Int) := by
  induction f with
  | zero =>
    intro k n c hk h2 hn hc
    obtain ⟨k, rfl⟩ : ∃ m, k = m + 1 := ⟨k - 1, by omega⟩
    simp only [spec_TreeSplit.l0, splAux]
    rw [w64 (by omega) (by omega), if_neg (by omega)]
  | succ f ih =>
    intro k n c hk h2 hn hc
    obtain ⟨k, rfl⟩ : ∃ m, k = m + 1 := ⟨k - 1, by omega⟩
    simp only [spec_TreeSplit.l0, splAux]
    rw [w64 (by omega) (by omega)]
    by_cases h : 2 * c < n
    · rw [if_pos (by omega), if_pos h]
      have := ih k n (2 * c) (by omega) (by rw [twice]; exact h2) hn (by omega)
      rw [show ((2 * c : Nat) : Int) = 2 * (c : Int) by omega] at this
      exact this
    · rw [if_neg (by omega), if_neg h]
theorem impl_split_l (k : Nat) : ∀ x y, impl_TreeSplit.l0 k x y = spec_TreeSplit.l0 k x y := by
  induction k with
  | zero => intro x y; rfl
  | succ k ih => intro x y; simp only [impl_TreeSplit.l0, spec_TreeSplit.l0, ih, Int.mul_comm y 2]
theorem spec_in {a lo hi : Int} : spec_l1In.f a lo hi = some (decide (lo ≤ a ∧ a ≤ hi)) := by
  unfold spec_l1In.f
  by_cases h : a ≥ lo
  · rw [if_pos h]; simp [h]
  · rw [if_neg h]; simp [h]
theorem impl_in {a lo hi : Int} : impl_in.f a lo hi = some (decide (lo ≤ a ∧ a ≤ hi)) := by
  unfold impl_in.f
  by_cases h : a ≥ lo
  · rw [if_pos h]; simp [h]
  · rw [if_neg h]; simp [h]
theorem spec_split {k n : Nat} (hk : 8 ≤ k) (h0 : 2 ≤ n) (h1 : n ≤ 256) : spec_TreeSplit.f k (n : Int) = some ((spl n : Nat) : Int) := by
  unfold spec_TreeSplit.f
  rw [spec_in]
  simp only [Option.bind_some]
  rw [if_pos (by simp; omega)]
  exact spec_split_l 7 k n 1 (by omega) (by omega) h1 (by omega)
theorem impl_is_spec_split (k : Nat) (a : Int) : impl_TreeSplit.f k a = spec_TreeSplit.f k a := by
  unfold impl_TreeSplit.f spec_TreeSplit.f
  rw [impl_in, spec_in]
  simp only [Option.bind_some, impl_split_l]
theorem impl_split {k n : Nat} (hk : 8 ≤ k) (h0 : 2 ≤ n) (h1 : n ≤ 256) : impl_TreeSplit.f k (n : Int) = some ((spl n : Nat) : Int) := by
  rw [impl_is_spec_split, spec_split hk h0 h1]
end Go.Proofs.Ytflckegggopdnaa.Q
end
section
namespace Go.Proofs.Ytflckegggopdnaa.Q
open Go.RowKit Go.Proofs.Ytflckegggopdnaa.B Go.Proofs.YtflckegggopdnaaW.PrintWords Go.Proofs.YtflckegggopdnaaW.PrintLast Go.Proofs.YtflckegggopdnaaW.PrintMore
abbrev NO := S100
def wayF : Nat → Nat → Nat → Nat → List NO
  | 0, _, _, _ => []
  | f + 1, i, lo, hi => if hi - lo ≤ 1 then [] else
      (⟨(lo : Int), (hi : Int)⟩ : NO) :: (if i < lo + spl (hi - lo) then wayF f i lo (lo + spl (hi - lo)) else wayF f i (lo + spl (hi - lo)) hi)
theorem halves {k lo hi : Nat} (hk : 8 ≤ k) (h0 : lo + 2 ≤ hi) (h1 : hi ≤ 256) : impl_node_halves.f k (lo : Int) (hi : Int) = some ((lo : Int), ((lo + spl (hi - lo) : Nat) : Int), ((lo + spl (hi - lo) : Nat) : Int), (hi : Int)) := by
  unfold impl_node_halves.f
  have hs := spl_lt (n := hi - lo) (by omega) (by omega)
  rw [show wrap64 ((hi : Int) - (lo : Int)) = ((hi - lo : Nat) : Int) by unfold wrap64; omega, impl_split hk (by omega) (by omega)]
  simp only [Option.bind_some]
  rw [show wrap64 ((lo : Int) + ((spl (hi - lo) : Nat) : Int)) = ((lo + spl (hi - lo) : Nat) : Int) by unfold wrap64; omega]
theorem way_l (f : Nat) : ∀ (k i lo hi : Nat) (acc : List NO), hi - lo ≤ f → lo ≤ hi → hi ≤ 256 → f + 9 ≤ k → acc.length + f ≤ 1000000 → impl_way.l0 k (i : Int) acc (lo : Int) (hi : Int) = some (acc ++ wayF f i lo hi) := by
  induction f with
  | zero =>
    intro k i lo hi acc hf h0 h1 hk ha
    obtain ⟨k, rfl⟩ : ∃ m, k = m + 1 := ⟨k - 1, by omega⟩
    simp only [impl_way.l0, wayF]
    rw [if_neg (by unfold wrap64; omega)]
    simp
  | succ f ih =>
    intro k i lo hi acc hf h0 h1 hk ha
    obtain ⟨k, rfl⟩ : ∃ m, k = m + 1 := ⟨k - 1, by omega⟩
    simp only [impl_way.l0, wayF]
    by_cases h : hi - lo ≤ 1
    · rw [if_neg (by unfold wrap64; omega), if_pos h]
      simp
    · have hs := spl_lt (n := hi - lo) (by omega) (by omega)
      rw [if_pos (by unfold wrap64; omega), if_neg h, if_pos (by omega), halves (by omega) (by omega) h1]
      simp only [Option.bind_some]
      by_cases hi' : i < lo + spl (hi - lo)
      · rw [if_pos (by omega), if_pos hi', ih _ _ _ _ _ (by omega) (by omega) (by omega) (by omega) (by simp; omega)]
        simp
      · rw [if_neg (by omega), if_neg hi', ih _ _ _ _ _ (by omega) (by omega) (by omega) (by omega) (by simp; omega)]
        simp
theorem wayF_len (f : Nat) : ∀ (i lo hi : Nat), hi - lo ≤ f → (wayF f i lo hi).length ≤ f := by
  induction f with
  | zero => intro i lo hi h; simp [wayF]
  | succ f ih =>
    intro i lo hi h
    simp only [wayF]
    by_cases h1 : hi - lo ≤ 1
    · rw [if_pos h1]; simp
    · rw [if_neg h1]
      by_cases h256 : hi - lo ≤ 256
      · have hs := spl_lt (n := hi - lo) (by omega) h256
        split <;> simp only [List.length_cons] <;> refine Nat.succ_le_succ (ih _ _ _ (by omega))
      · split <;> simp only [List.length_cons] <;> refine Nat.succ_le_succ ?_
        all_goals exact wayF_len' f _ _ _
where
  wayF_len' : ∀ (f i lo hi : Nat), (wayF f i lo hi).length ≤ f
    | 0, _, _, _ => by simp [wayF]
    | f + 1, i, lo, hi => by
      simp only [wayF]
      split
      · simp
      · split <;> simp only [List.length_cons] <;> exact Nat.succ_le_succ (wayF_len' f _ _ _)
def way (n i : Nat) : List NO := wayF n i 0 n
theorem impl_way {k n i : Nat} (hk : 300 ≤ k) (h : n ≤ 256) : impl_way.f k (n : Int) (i : Int) = some (way n i) := by
  unfold impl_way.f
  have := way_l n k i 0 n [] (by omega) (by omega) h (by omega) (by simp; omega)
  simpa [way] using this
def pathLen (a b : Int) : Int := if 1 ≤ a ∧ a ≤ 256 ∧ 0 ≤ b ∧ b < a then ((way a.toNat b.toNat).length : Int) else -1
theorem impl_pathLen {k : Nat} (hk : 300 ≤ k) (a b : Int) : impl_PathLen.f k a b = some (pathLen a b) := by
  unfold impl_PathLen.f pathLen
  rw [impl_in]
  simp only [Option.bind_some]
  by_cases h : 1 ≤ a ∧ a ≤ 256
  · rw [if_pos (by simp; omega), impl_in]
    simp only [Option.bind_some]
    rw [show wrap64 (a - 1) = a - 1 by unfold wrap64; omega]
    by_cases h2 : 0 ≤ b ∧ b < a
    · rw [if_pos (by simp; omega), if_pos (by omega)]
      have := impl_way (n := a.toNat) (i := b.toNat) hk (by omega)
      rw [show ((a.toNat : Nat) : Int) = a by omega, show ((b.toNat : Nat) : Int) = b by omega] at this
      rw [this]
      rfl
    · rw [if_neg (by simp; omega), if_neg (by omega)]
  · rw [if_neg (by simp; omega), if_neg (by omega)]
end Go.Proofs.Ytflckegggopdnaa.Q
end
section
namespace Go.Proofs.Ytflckegggopdnaa.Q
open Go.RowKit Go.Proofs.Ytflckegggopdnaa.B Go.Proofs.YtflckegggopdnaaW.PrintWords Go.Proofs.YtflckegggopdnaaW.PrintLast
end Go.Proofs.Ytflckegggopdnaa.Q
end
section
namespace Go.Proofs.Ytflckegggopdnaa.Q
open Go.RowKit Go.Proofs.Ytflckegggopdnaa.B Go.Proofs.YtflckegggopdnaaW.PrintWords Go.Proofs.YtflckegggopdnaaW.PrintLast Go.Proofs.YtflckegggopdnaaW.PrintMore
def fallF : Nat → Nat → Nat → Nat → List NO × List NO
  | 0, _, _, _ => ([], [])
  | f + 1, lo, hi, m => if hi ≤ m then ([⟨(lo : Int), (hi : Int)⟩], []) else if m ≤ lo then ([], [⟨(lo : Int), (hi : Int)⟩]) else
      ((fallF f lo (lo + spl (hi - lo)) m).1 ++ (fallF f (lo + spl (hi - lo)) hi m).1, (fallF f lo (lo + spl (hi - lo)) m).2 ++ (fallF f (lo + spl (hi - lo)) hi m).2)
theorem fall_len (f : Nat) : ∀ (lo hi m : Nat), hi - lo ≤ f → hi ≤ 256 → lo < hi → (fallF f lo hi m).1.length + (fallF f lo hi m).2.length ≤ hi - lo := by
  induction f with
  | zero => intro lo hi m h; simp [fallF]
  | succ f ih =>
    intro lo hi m h h1 h2
    simp only [fallF]
    by_cases ha : hi ≤ m
    · rw [if_pos ha]; simp; omega
    · rw [if_neg ha]
      by_cases hb : m ≤ lo
      · rw [if_pos hb]; simp; omega
      · rw [if_neg hb]
        have hs := spl_lt (n := hi - lo) (by omega) (by omega)
        have i1 := ih lo (lo + spl (hi - lo)) m (by omega) (by omega) (by omega)
        have i2 := ih (lo + spl (hi - lo)) hi m (by omega) (by omega) (by omega)
        simp only [List.length_append]
        omega
theorem fall_l (f : Nat) : ∀ (k lo hi m : Nat) (a b : List NO), hi - lo ≤ f → lo < hi → hi ≤ 256 → f + 9 ≤ k → a.length + (hi - lo) ≤ 1000000 → b.length + (hi - lo) ≤ 1000000 → impl_fall.f k (lo : Int) (hi : Int) (m : Int) a b = some (a ++ (fallF f lo hi m).1, b ++ (fallF f lo hi m).2) := by
  induction f with
  | zero => intro k lo hi m a b h h0; omega
  | succ f ih =>
    intro k lo hi m a b h h0 h1 hk ha hb
    obtain ⟨k, rfl⟩ : ∃ m, k = m + 1 := ⟨k - 1, by omega⟩
    simp only [impl_fall.f, fallF]
    by_cases c1 : hi ≤ m
    · rw [if_pos (by omega), if_pos (by omega), if_pos c1]
      simp
    · rw [if_neg (by omega), if_neg c1]
      by_cases c2 : m ≤ lo
      · rw [if_pos (by omega), if_pos (by omega), if_pos c2]
        simp
      · rw [if_neg (by omega), if_neg c2]
        have hs := spl_lt (n := hi - lo) (by omega) (by omega)
        have l1 := fall_len f lo (lo + spl (hi - lo)) m (by omega) (by omega) (by omega)
        rw [halves (by omega) (by omega) h1]
        simp only [Option.bind_some]
        rw [ih _ _ _ _ _ _ (by omega) (by omega) (by omega) (by omega) (by omega) (by omega)]
        simp only [Option.bind_some]
        rw [ih _ _ _ _ _ _ (by omega) (by omega) (by omega) (by omega) (by simp; omega) (by simp; omega)]
        simp
def grow (m n : Nat) : List NO × List NO := fallF n 0 n m
theorem impl_nodes {k m n : Nat} (hk : 300 ≤ k) (h0 : 0 < n) (h : n ≤ 256) : impl_growthNodes.f k (m : Int) (n : Int) = some (grow m n) := by
  unfold impl_growthNodes.f
  have := fall_l n k 0 n m [] [] (by omega) h0 h (by omega) (by simp; omega) (by simp; omega)
  rw [show ((0 : Nat) : Int) = 0 by rfl] at this
  rw [this]
  rfl
def growLen (m n : Int) : Int := if 0 ≤ m ∧ m ≤ n ∧ n ≤ 256 then (if m = 0 ∨ m = n then 0 else (((grow m.toNat n.toNat).1.length + (grow m.toNat n.toNat).2.length : Nat) : Int)) else -1
theorem impl_growLen {k : Nat} (hk : 300 ≤ k) (m n : Int) : impl_GrowthLen.f k m n = some (growLen m n) := by
  unfold impl_GrowthLen.f impl_mayGrow.f growLen
  rw [impl_in]
  simp only [Option.bind_some]
  by_cases h : 0 ≤ n ∧ n ≤ 256
  · rw [if_pos (by simp; omega), impl_in]
    simp only [Option.bind_some]
    by_cases h2 : 0 ≤ m ∧ m ≤ n
    · rw [if_pos (by simp; omega), if_pos (show 0 ≤ m ∧ m ≤ n ∧ n ≤ 256 by omega)]
      by_cases c : m = 0
      · rw [if_pos c, if_pos (Or.inl c)]
      · rw [if_neg c]
        by_cases c2 : m = n
        · rw [if_pos c2, if_pos (Or.inr c2)]
        · rw [if_neg c2, if_neg (by omega)]
          have := impl_nodes (m := m.toNat) (n := n.toNat) hk (by omega) (by omega)
          rw [show ((m.toNat : Nat) : Int) = m by omega, show ((n.toNat : Nat) : Int) = n by omega] at this
          rw [this]
          simp only [Option.bind_some]
          have := fall_len n.toNat 0 n.toNat m.toNat (by omega) (by omega) (by omega)
          unfold grow
          generalize (fallF n.toNat 0 n.toNat m.toNat).1.length = A at *
          generalize (fallF n.toNat 0 n.toNat m.toNat).2.length = B at *
          unfold wrap64
          refine congrArg some ?_
          omega
    · rw [if_neg (by simp; omega), if_neg (by omega)]
  · rw [if_neg (by simp; omega), if_neg (show ¬ (0 ≤ m ∧ m ≤ n ∧ n ≤ 256) by omega)]
    rfl
end Go.Proofs.Ytflckegggopdnaa.Q
end
section
namespace Go.Proofs.Ytflckegggopdnaa.Q
open Go.RowKit Go.Proofs.Ytflckegggopdnaa.B Go.Proofs.YtflckegggopdnaaW.PrintWords Go.Proofs.YtflckegggopdnaaW.PrintLast Go.Proofs.YtflckegggopdnaaW.PrintMore
abbrev SD := S29
abbrev LD := S24
theorem step64 {i : Nat} (h : i < 4611686018427387904) : wrap64 ((i : Int) + 1) = ((i + 1 : Nat) : Int) := by unfold wrap64; omega
theorem rdOf_nat {l : List ByteArray} {i : Nat} (h : i < l.length) : rdOf ByteArray.empty l (i : Int) = l[i] := by simp [rdOf, List.getD, List.getElem?_eq_getElem h]
def conv (d : LD) : SD := ⟨d.f0, d.f1, d.f2, d.f3⟩
end Go.Proofs.Ytflckegggopdnaa.Q
end
section
namespace Go.Proofs.Ytflckegggopdnaa.Q
open Go.RowKit Go.Proofs.Ytflckegggopdnaa.B Go.Proofs.YtflckegggopdnaaW.PrintWords Go.Proofs.YtflckegggopdnaaW.PrintLast Go.Proofs.YtflckegggopdnaaW.PrintMore
set_option linter.unusedVariables false
def ahead : List NO → Int → Nat
  | [], _ => 0
  | x :: xs, a => (if x.f0 < a then 1 else 0) + ahead xs a
def Sorted (xs : List NO) : Prop := xs.Pairwise (fun x y => x.f0 < y.f0)
theorem ahead_none {xs : List NO} {a : Int} (h : ∀ x ∈ xs, a ≤ x.f0) : ahead xs a = 0 := by
  induction xs with
  | nil => rfl
  | cons x xs ih =>
    have h1 := h x List.mem_cons_self
    simp only [ahead]
    rw [if_neg (by omega), ih (fun y hy => h y (List.mem_cons_of_mem _ hy))]
theorem ahead_at {xs : List NO} (hs : Sorted xs) : ∀ (j : Nat) (hj : j < xs.length), ahead xs xs[j].f0 = j := by
  induction xs with
  | nil => intro j hj; exact absurd hj (by simp)
  | cons x xs ih =>
    intro j hj
    obtain ⟨h1, h2⟩ := List.pairwise_cons.1 hs
    cases j with
    | zero =>
      simp only [ahead, List.getElem_cons_zero]
      rw [if_neg (by omega), ahead_none (fun y hy => Int.le_of_lt (h1 y hy))]
    | succ j =>
      have hj' : j < xs.length := by simpa using hj
      simp only [ahead, List.getElem_cons_succ]
      rw [if_pos (h1 _ (List.getElem_mem hj')), ih h2 j hj']
      omega
theorem ahead_lt {xs : List NO} (hs : Sorted xs) {x : NO} (hx : x ∈ xs) : ∃ h : ahead xs x.f0 < xs.length, xs[ahead xs x.f0] = x := by
  obtain ⟨j, hj, e⟩ := List.getElem_of_mem hx
  have := ahead_at hs j hj
  rw [e] at this
  subst this
  exact ⟨hj, e⟩
theorem fall_in (f : Nat) : ∀ (lo hi m : Nat), hi - lo ≤ f → hi ≤ 256 → lo < hi →
    (∀ x ∈ (fallF f lo hi m).1, (lo : Int) ≤ x.f0 ∧ x.f0 < x.f1 ∧ x.f1 ≤ (hi : Int) ∧ x.f1 ≤ (m : Int)) ∧ (∀ x ∈ (fallF f lo hi m).2, (lo : Int) ≤ x.f0 ∧ x.f0 < x.f1 ∧ x.f1 ≤ (hi : Int) ∧ (m : Int) ≤ x.f0) := by
  induction f with
  | zero => intro lo hi m h h1 h2; omega
  | succ f ih =>
    intro lo hi m h h1 h2
    simp only [fallF]
    by_cases ha : hi ≤ m
    · rw [if_pos ha]
      refine ⟨fun x hx => ?_, fun x hx => absurd hx (by simp)⟩
      rw [List.mem_singleton.1 hx]
      show (lo : Int) ≤ (lo : Int) ∧ (lo : Int) < (hi : Int) ∧ (hi : Int) ≤ (hi : Int) ∧ (hi : Int) ≤ (m : Int)
      omega
    · rw [if_neg ha]
      by_cases hb : m ≤ lo
      · rw [if_pos hb]
        refine ⟨fun x hx => absurd hx (by simp), fun x hx => ?_⟩
        rw [List.mem_singleton.1 hx]
        show (lo : Int) ≤ (lo : Int) ∧ (lo : Int) < (hi : Int) ∧ (hi : Int) ≤ (hi : Int) ∧ (m : Int) ≤ (lo : Int)
        omega
      · rw [if_neg hb]
        have hs := spl_lt (n := hi - lo) (by omega) (by omega)
        obtain ⟨i1, i2⟩ := ih lo (lo + spl (hi - lo)) m (by omega) (by omega) (by omega)
        obtain ⟨i3, i4⟩ := ih (lo + spl (hi - lo)) hi m (by omega) (by omega) (by omega)
        refine ⟨fun x hx => ?_, fun x hx => ?_⟩
        · rcases List.mem_append.1 hx with hx | hx
          · have := i1 x hx; omega
          · have := i3 x hx; omega
        · rcases List.mem_append.1 hx with hx | hx
          · have := i2 x hx; omega
          · have := i4 x hx; omega
theorem fall_sorted (f : Nat) : ∀ (lo hi m : Nat), hi - lo ≤ f → hi ≤ 256 → lo < hi → Sorted (fallF f lo hi m).1 ∧ Sorted (fallF f lo hi m).2 := by
  induction f with
  | zero => intro lo hi m h h1 h2; omega
  | succ f ih =>
    intro lo hi m h h1 h2
    simp only [fallF]
    by_cases ha : hi ≤ m
    · rw [if_pos ha]; exact ⟨List.pairwise_singleton _ _, List.Pairwise.nil⟩
    · rw [if_neg ha]
      by_cases hb : m ≤ lo
      · rw [if_pos hb]; exact ⟨List.Pairwise.nil, List.pairwise_singleton _ _⟩
      · rw [if_neg hb]
        have hs := spl_lt (n := hi - lo) (by omega) (by omega)
        obtain ⟨i1, i2⟩ := fall_in f lo (lo + spl (hi - lo)) m (by omega) (by omega) (by omega)
        obtain ⟨i3, i4⟩ := fall_in f (lo + spl (hi - lo)) hi m (by omega) (by omega) (by omega)
        obtain ⟨s1, s2⟩ := ih lo (lo + spl (hi - lo)) m (by omega) (by omega) (by omega)
        obtain ⟨s3, s4⟩ := ih (lo + spl (hi - lo)) hi m (by omega) (by omega) (by omega)
        exact ⟨List.pairwise_append.2 ⟨s1, s3, fun a ha b hb => by have := i1 a ha; have := i3 b hb; omega⟩, List.pairwise_append.2 ⟨s2, s4, fun a ha b hb => by have := i2 a ha; have := i4 b hb; omega⟩⟩
def gnodes (m n : Nat) : List NO := (grow m n).1 ++ (grow m n).2
theorem gnodes_sorted {m n : Nat} (h0 : 0 < n) (h : n ≤ 256) : Sorted (gnodes m n) := by
  obtain ⟨i1, i2⟩ := fall_in n 0 n m (by omega) h h0
  obtain ⟨s1, s2⟩ := fall_sorted n 0 n m (by omega) h h0
  exact List.pairwise_append.2 ⟨s1, s2, fun a ha b hb => by have := i1 a ha; have := i2 b hb; omega⟩
theorem gnodes_len {m n : Nat} (h0 : 0 < n) (h : n ≤ 256) : (gnodes m n).length ≤ n := by
  have := fall_len n 0 n m (by omega) h h0
  unfold gnodes grow
  rw [List.length_append]
  omega
def putAll : List NO → List SD → MapD → MapD
  | x :: xs, p :: ps, M => putAll xs ps ((x, p) :: M)
  | _, _, M => M
theorem look_other (xs : List NO) : ∀ (ps : List SD) (M : MapD) (a b : Int), (∀ x ∈ xs, ¬ (x.f0 = a ∧ x.f1 = b)) → lookD (putAll xs ps M) a b = lookD M a b := by
  induction xs with
  | nil => intro ps M a b _; rfl
  | cons x xs ih =>
    intro ps M a b h
    cases ps with
    | nil => rfl
    | cons p ps =>
      simp only [putAll]
      rw [ih ps _ a b (fun y hy => h y (List.mem_cons_of_mem _ hy))]
      simp only [lookD]
      rw [if_neg (h x List.mem_cons_self)]
theorem look_at {xs : List NO} (hs : Sorted xs) : ∀ (ps : List SD) (M : MapD) (j : Nat) (hj : j < xs.length) (hp : j < ps.length), lookD (putAll xs ps M) xs[j].f0 xs[j].f1 = some ps[j] := by
  induction xs with
  | nil => intro ps M j hj; exact absurd hj (by simp)
  | cons x xs ih =>
    intro ps M j hj hp
    obtain ⟨h1, h2⟩ := List.pairwise_cons.1 hs
    cases ps with
    | nil => exact absurd hp (by simp)
    | cons p ps =>
      simp only [putAll]
      cases j with
      | zero =>
        simp only [List.getElem_cons_zero]
        rw [look_other xs ps _ _ _ (fun y hy hh => by have := h1 y hy; omega)]
        simp [lookD]
      | succ j =>
        simp only [List.getElem_cons_succ]
        exact ih h2 ps _ j (by simpa using hj) (by simpa using hp)
def given (m n : Nat) (P : List SD) (lo : Nat) : SD := P.getD (ahead (gnodes m n) (lo : Int)) ⟨0, 0, 0, 0⟩
theorem look_given {m n : Nat} (h0 : 0 < n) (h : n ≤ 256) {P : List SD} (hP : P.length = (gnodes m n).length) {a b : Nat} (hx : (⟨(a : Int), (b : Int)⟩ : NO) ∈ gnodes m n) : lookD (putAll (gnodes m n) P []) (a : Int) (b : Int) = some (given m n P a) := by
  obtain ⟨hj, e⟩ := ahead_lt (gnodes_sorted h0 h) hx
  have hj' : ahead (gnodes m n) (a : Int) < (gnodes m n).length := hj
  have e' : (gnodes m n)[ahead (gnodes m n) (a : Int)] = (⟨(a : Int), (b : Int)⟩ : NO) := e
  have := look_at (gnodes_sorted h0 h) P [] (ahead (gnodes m n) (a : Int)) hj' (by omega)
  rw [e'] at this
  rw [this]
  unfold given
  rw [List.getD, List.getElem?_eq_getElem (by omega)]
  rfl
theorem look_over {m n : Nat} (h0 : 0 < n) (h : n ≤ 256) (P : List SD) {a b : Nat} (h1 : a < m) (h2 : m < b) : lookD (putAll (gnodes m n) P []) (a : Int) (b : Int) = none := by
  obtain ⟨i1, i2⟩ := fall_in n 0 n m (by omega) h h0
  rw [look_other _ _ _ _ _ (fun x hx hh => ?_)]
  · rfl
  · rcases List.mem_append.1 hx with hx | hx
    · have := i1 x hx; omega
    · have := i2 x hx; omega
end Go.Proofs.Ytflckegggopdnaa.Q
end
section
namespace Go.Proofs.Ytflckegggopdnaa.Q
open Go.RowKit Go.Proofs.Ytflckegggopdnaa.B Go.Proofs.YtflckegggopdnaaW.PrintWords Go.Proofs.YtflckegggopdnaaW.PrintLast Go.Proofs.YtflckegggopdnaaW.PrintMore
abbrev D4 := Int × Int × Int × Int
def rot (n : Int) (x : Int) : Int := Go.bits .or .u64 (shl .u64 x n) (shr .u64 x (64 - n))
def xr (x y : Int) : Int := Go.bits .xor .u64 x y
def wr (x : Int) : Int := IntKind.u64.wrap x
def kc : Int := 12620524952350641003
def hbl : Nat → Int → Int → Int → Int → Int → D4
  | 0, a, b, c, d, _ => (a, b, c, d)
  | n + 1, a, b, c, d, k =>
    hbl n (rot 21 (xr b (wr (c + rot 39 (xr d (wr (wr (a + b) + wr (k + kc)))))))) (wr (c + rot 39 (xr d (wr (wr (a + b) + wr (k + kc)))))) (rot 39 (xr d (wr (wr (a + b) + wr (k + kc))))) (wr (wr (a + b) + wr (k + kc))) (wr (k + kc))
def out4 (s0 s1 s2 s3 : Int) (r : D4) : D4 := (xr r.1 s0, xr r.2.1 s1, xr r.2.2.1 s2, xr r.2.2.2 s3)
def hb (s x : D4) : D4 := out4 s.1 s.2.1 s.2.2.1 s.2.2.2 (hbl 10 (xr s.1 x.1) (xr s.2.1 x.2.1) (xr s.2.2.1 x.2.2.1) (xr s.2.2.2 x.2.2.2) 0)
theorem wrap_lit (n : Nat) (h : n < 18446744073709551616) : IntKind.u64.wrap (n : Int) = n := by rw [IntKind.wrap_u64]; omega
theorem turn39 (x : Int) : spec_l1Turn.f x 39 = some (rot 39 x) := by
  unfold spec_l1Turn.f
  rw [show IntKind.u64.wrap 39 = 39 from wrap_lit 39 (by decide), show wrap64 (64 - 39) = 25 from by unfold wrap64; decide, show IntKind.u64.wrap 25 = 25 from wrap_lit 25 (by decide), if_pos (by decide), if_pos (by decide)]
  rfl
theorem turn21 (x : Int) : spec_l1Turn.f x 21 = some (rot 21 x) := by
  unfold spec_l1Turn.f
  rw [show IntKind.u64.wrap 21 = 21 from wrap_lit 21 (by decide), show wrap64 (64 - 21) = 43 from by unfold wrap64; decide, show IntKind.u64.wrap 43 = 43 from wrap_lit 43 (by decide), if_pos (by decide), if_pos (by decide)]
  rfl
theorem and63 (n : Nat) (h : n < 64) : Go.bits .and .u64 (n : Int) 63 = n := by
  have := (bits_nat .u64 64 (by decide) wraps_u64 n 63 (by omega) (by decide)).1
  rw [show ((63 : Nat) : Int) = 63 from rfl] at this
  rw [this, show n &&& 63 = n % 64 from Nat.and_two_pow_sub_one_eq_mod n 6]
  omega
theorem rl39 (x : Int) : bits_RotateLeft64.f x 39 = some (rot 39 x) := by
  unfold bits_RotateLeft64.f
  rw [show IntKind.u64.wrap 39 = ((39 : Nat) : Int) from wrap_lit 39 (by decide), and63 39 (by decide), show (64 : Int) - ((39 : Nat) : Int) = ((25 : Nat) : Int) from rfl, wrap_lit 25 (by decide), if_pos (by decide), if_pos (by decide)]
  rfl
theorem rl21 (x : Int) : bits_RotateLeft64.f x 21 = some (rot 21 x) := by
  unfold bits_RotateLeft64.f
  rw [show IntKind.u64.wrap 21 = ((21 : Nat) : Int) from wrap_lit 21 (by decide), and63 21 (by decide), show (64 : Int) - ((21 : Nat) : Int) = ((43 : Nat) : Int) from rfl, wrap_lit 43 (by decide), if_pos (by decide), if_pos (by decide)]
  rfl
theorem wr_sum (a b k : Int) : IntKind.u64.wrap (a + IntKind.u64.wrap (b + k)) = wr (wr (a + b) + k) := by
  unfold wr
  simp only [IntKind.wrap_u64]
  omega
theorem spec_block_l (n : Nat) : ∀ (k : Nat) (a b c d kk : Int) (i : Nat) (s0 s1 s2 s3 : Int), i + n = 10 → n < k → spec_HashBlock.l0 k a b c d kk (i : Int) s0 s1 s2 s3 = some (out4 s0 s1 s2 s3 (hbl n a b c d kk)) := by
  induction n with
  | zero =>
    intro k a b c d kk i s0 s1 s2 s3 hi hk
    obtain ⟨k, rfl⟩ : ∃ m, k = m + 1 := ⟨k - 1, by omega⟩
    simp only [spec_HashBlock.l0]
    rw [if_neg (by omega)]
    rfl
  | succ n ih =>
    intro k a b c d kk i s0 s1 s2 s3 hi hk
    obtain ⟨k, rfl⟩ : ∃ m, k = m + 1 := ⟨k - 1, by omega⟩
    simp only [spec_HashBlock.l0]
    rw [if_pos (by omega), turn39]
    simp only [Option.bind_some]
    rw [turn21]
    simp only [Option.bind_some]
    rw [show wrap64 ((i : Int) + 1) = ((i + 1 : Nat) : Int) by unfold wrap64; omega]
    rw [ih k _ _ _ _ _ (i + 1) s0 s1 s2 s3 (by omega) (by omega)]
    rfl
theorem impl_block_l (n : Nat) : ∀ (k : Nat) (a b c d kk : Int) (i : Nat) (s0 s1 s2 s3 : Int), i + n = 10 → n < k → impl_HashBlock.l0 k a b c d kk (i : Int) s0 s1 s2 s3 = some (out4 s0 s1 s2 s3 (hbl n a b c d kk)) := by
  induction n with
  | zero =>
    intro k a b c d kk i s0 s1 s2 s3 hi hk
    obtain ⟨k, rfl⟩ : ∃ m, k = m + 1 := ⟨k - 1, by omega⟩
    simp only [impl_HashBlock.l0]
    rw [if_neg (by omega)]
    rfl
  | succ n ih =>
    intro k a b c d kk i s0 s1 s2 s3 hi hk
    obtain ⟨k, rfl⟩ : ∃ m, k = m + 1 := ⟨k - 1, by omega⟩
    simp only [impl_HashBlock.l0]
    rw [if_pos (by omega), wr_sum, rl39]
    simp only [Option.bind_some]
    rw [rl21]
    simp only [Option.bind_some]
    rw [show wrap64 ((i : Int) + 1) = ((i + 1 : Nat) : Int) by unfold wrap64; omega]
    rw [ih k _ _ _ _ _ (i + 1) s0 s1 s2 s3 (by omega) (by omega)]
    rfl
theorem spec_block {k : Nat} (hk : 11 ≤ k) (a b c d x y z u : Int) : spec_HashBlock.f k a b c d x y z u = some (hb (a, b, c, d) (x, y, z, u)) := by
  unfold spec_HashBlock.f
  exact spec_block_l 10 k _ _ _ _ 0 0 a b c d (by omega) (by omega)
theorem impl_block {k : Nat} (hk : 11 ≤ k) (a b c d x y z u : Int) : impl_HashBlock.f k a b c d x y z u = some (hb (a, b, c, d) (x, y, z, u)) := by
  unfold impl_HashBlock.f
  exact impl_block_l 10 k _ _ _ _ 0 0 a b c d (by omega) (by omega)
def be8 (v : Int) : List Int := [(v / 72057594037927936) % 256, (v / 281474976710656) % 256, (v / 1099511627776) % 256, (v / 4294967296) % 256, (v / 16777216) % 256, (v / 65536) % 256, (v / 256) % 256, v % 256]
theorem be8_length (v : Int) : (be8 v).length = 8 := rfl
theorem app64 (l : List Int) (v : Int) (h : l.length + 8 < 140737488355328) : binary_bigEndian_AppendUint64.f l v = some (l ++ be8 v) := by
  unfold binary_bigEndian_AppendUint64.f
  simp only [Option.bind_some]
  rw [if_pos (by simpa using h)]
  rfl
theorem shr_lit (v : Int) (n : Nat) (h : n ≤ 64) : shr .u64 v (n : Int) = v / 2 ^ n := by
  unfold shr
  rw [show (min ((n : Int).toNat) (IntKind.bits .u64)) = n by show min _ 64 = n; omega]
def tail8 (v : Int) : Nat → List Int
  | 0 => []
  | j + 1 => (v / 2 ^ (8 * j)) % 256 :: tail8 v j
theorem tail8_is (v : Int) : tail8 v 8 = be8 v := by
  simp [tail8, be8]
theorem spec_bytes_l (j : Nat) : ∀ (k : Nat) (v : Int) (acc : List Int), j < k → j ≤ 8 → acc.length + j ≤ 8 → spec_l1Bytes.l0 k v acc ((j : Int) - 1) = some (strOfNums (acc ++ tail8 v j)) := by
  induction j with
  | zero =>
    intro k v acc hk _ _
    obtain ⟨k, rfl⟩ : ∃ m, k = m + 1 := ⟨k - 1, by omega⟩
    simp only [spec_l1Bytes.l0, tail8]
    rw [if_neg (by omega), List.append_nil]
  | succ j ih =>
    intro k v acc hk hj hl
    obtain ⟨k, rfl⟩ : ∃ m, k = m + 1 := ⟨k - 1, by omega⟩
    simp only [spec_l1Bytes.l0, tail8]
    rw [show (((j + 1 : Nat) : Int) - 1) = (j : Int) by omega, if_pos (by omega), show wrap64 (8 * (j : Int)) = ((8 * j : Nat) : Int) by unfold wrap64; omega, wrap_lit (8 * j) (by omega), if_pos (by omega), if_pos (by omega), shr_lit v (8 * j) (by omega)]
    rw [show wrap64 ((j : Int) - 1) = (j : Int) - 1 by unfold wrap64; omega, ih k v _ (by omega) (by omega) (by simp; omega)]
    simp
theorem spec_bytes {k : Nat} (hk : 9 ≤ k) (v : Int) : spec_l1Bytes.f k v = some (strOfNums (be8 v)) := by
  unfold spec_l1Bytes.f
  have := spec_bytes_l 8 k v [] (by omega) (by omega) (by simp)
  rw [List.nil_append, tail8_is] at this
  exact this
def be32 (d : D4) : List Int := be8 d.1 ++ be8 d.2.1 ++ be8 d.2.2.1 ++ be8 d.2.2.2
theorem be32_length (d : D4) : (be32 d).length = 32 := rfl
theorem str_append (a b : List Int) : strOfNums a ++ strOfNums b = strOfNums (a ++ b) := by
  apply ByteArray.ext
  simp [strOfNums]
theorem str_size (a : List Int) : (strOfNums a).size = a.length := strOfNums_size a
theorem spec_hbytes {k : Nat} (hk : 9 ≤ k) (a b c d : Int) : spec_HashBytes.f k a b c d = some (strOfNums (be32 (a, b, c, d))) := by
  unfold spec_HashBytes.f
  rw [spec_bytes hk, spec_bytes hk, spec_bytes hk, spec_bytes hk]
  simp only [Option.bind_some, str_append, str_size]
  rw [if_pos (by simp [be8_length]), if_pos (by simp [be8_length]), if_pos (by simp [be8_length])]
  rfl
theorem impl_hbytes_l (n : Nat) : ∀ (k : Nat) (acc l : List Int) (i : Nat), l.length = i + n → n < k → acc.length + 8 * n < 1000 → l.length < 1000 → impl_HashBytes.l0 k acc l (l.length : Int) (i : Int) = some (strOfNums (acc ++ (l.drop i).flatMap be8)) := by
  induction n with
  | zero =>
    intro k acc l i hl hk _ _
    obtain ⟨k, rfl⟩ : ∃ m, k = m + 1 := ⟨k - 1, by omega⟩
    simp only [impl_HashBytes.l0]
    rw [if_neg (by omega), List.drop_of_length_le (by omega)]
    simp
  | succ n ih =>
    intro k acc l i hl hk ha hll
    obtain ⟨k, rfl⟩ : ∃ m, k = m + 1 := ⟨k - 1, by omega⟩
    simp only [impl_HashBytes.l0]
    rw [if_pos (by omega), if_pos (by omega), if_pos (by omega), app64 _ _ (by omega)]
    simp only [Option.bind_some]
    rw [show wrap64 ((i : Int) + 1) = ((i + 1 : Nat) : Int) by unfold wrap64; omega, ih k _ l (i + 1) (by omega) (by omega) (by simp [be8_length]; omega) hll]
    have hi : i < l.length := by omega
    have e : rd l (i : Int) = l[i] := by simp [rd, List.getD, List.getElem?_eq_getElem hi]
    rw [List.drop_eq_getElem_cons hi, List.flatMap_cons, e, List.append_assoc]
theorem impl_hbytes {k : Nat} (hk : 5 ≤ k) (a b c d : Int) : impl_HashBytes.f k a b c d = some (strOfNums (be32 (a, b, c, d))) := by
  unfold impl_HashBytes.f
  simp only [Option.bind_some]
  have := impl_hbytes_l 4 k [] [a, b, c, d] 0 rfl (by omega) (by simp) (by simp)
  rw [List.nil_append] at this
  rw [show (([a, b, c, d] : List Int).drop 0).flatMap be8 = be32 (a, b, c, d) by simp [be32]] at this
  exact this
end Go.Proofs.Ytflckegggopdnaa.Q
end
section
namespace Go.Proofs.Ytflckegggopdnaa.Q
open Go.RowKit Go.Proofs.Ytflckegggopdnaa.B Go.Proofs.YtflckegggopdnaaW.PrintWords Go.Proofs.YtflckegggopdnaaW.PrintLast Go.Proofs.YtflckegggopdnaaW.PrintMore
def Bytes8 (l : List Int) : Prop := ∀ x ∈ l, 0 ≤ x ∧ x ≤ 255
theorem bytesOf_8 (s : ByteArray) : Bytes8 (bytesOf s) := by
  intro x hx
  simp only [bytesOf, List.mem_map] at hx
  obtain ⟨b, _, rfl⟩ := hx
  have := b.toNat_lt
  omega
theorem bytesOf_str (l : List Int) (h : Bytes8 l) : bytesOf (strOfNums l) = l := by
  simp only [bytesOf, strOfNums_data, List.map_map]
  conv => rhs; rw [← List.map_id l]
  apply List.map_congr_left
  intro x hx
  have := h x hx
  simp only [Function.comp, id, UInt8.toNat_ofNat']
  omega
theorem be8_8 (v : Int) : Bytes8 (be8 v) := by
  intro x hx
  simp only [be8, List.mem_cons, List.not_mem_nil, or_false] at hx
  rcases hx with rfl | rfl | rfl | rfl | rfl | rfl | rfl | rfl <;> omega
theorem Bytes8.append {a b : List Int} (ha : Bytes8 a) (hb : Bytes8 b) : Bytes8 (a ++ b) := fun x hx => (List.mem_append.1 hx).elim (ha x) (hb x)
theorem Bytes8.drop {a : List Int} (ha : Bytes8 a) (n : Nat) : Bytes8 (a.drop n) := fun x hx => ha x (List.mem_of_mem_drop hx)
theorem Bytes8.take {a : List Int} (ha : Bytes8 a) (n : Nat) : Bytes8 (a.take n) := fun x hx => ha x (List.mem_of_mem_take hx)
theorem rd_nat {l : List Int} {i : Nat} (h : i < l.length) : rd l (i : Int) = l[i] := by simp [rd, List.getD, List.getElem?_eq_getElem h]
theorem bt_nat {s : ByteArray} {i : Nat} (h : i < (bytesOf s).length) : bt s (i : Int) = (bytesOf s)[i] := by rw [← rd_bytesOf, rd_nat h]
def w8 (l : List Int) : Int := (l.take 8).foldl (fun w b => w * 256 + b) 0
theorem eight {l : List Int} (h : 8 ≤ l.length) : ∃ a b c d e f g i r, l = a :: b :: c :: d :: e :: f :: g :: i :: r := by
  match l, h with
  | a :: b :: c :: d :: e :: f :: g :: i :: r, _ => exact ⟨a, b, c, d, e, f, g, i, r, rfl⟩
theorem u64_is {l : List Int} (h : 8 ≤ l.length) (hb : Bytes8 l) : binary_bigEndian_Uint64.f l = some (w8 l) := by
  obtain ⟨a, b, c, d, e, f, g, i, r, rfl⟩ := eight h
  have h0 := hb a (by simp)
  have h1 := hb b (by simp)
  have h2 := hb c (by simp)
  have h3 := hb d (by simp)
  have h4 := hb e (by simp)
  have h5 := hb f (by simp)
  have h6 := hb g (by simp)
  have h7 := hb i (by simp)
  unfold binary_bigEndian_Uint64.f
  rw [if_pos (by omega), if_pos (by omega), if_pos (by omega), if_pos (by omega), if_pos (by omega), if_pos (by omega), if_pos (by omega), if_pos (by omega)]
  simp only [rd, w8, List.take_succ_cons, List.take_zero, List.foldl_cons, List.foldl_nil, show Int.toNat 7 = 7 from rfl, show Int.toNat 6 = 6 from rfl, show Int.toNat 5 = 5 from rfl, show Int.toNat 4 = 4 from rfl, show Int.toNat 3 = 3 from rfl, show Int.toNat 2 = 2 from rfl, show Int.toNat 1 = 1 from rfl, show Int.toNat 0 = 0 from rfl, List.getD_cons_succ, List.getD_cons_zero]
  simp (disch := omega) only [u64_wrap_id, u64_or8, u64_or16, u64_or24, u64_or32, u64_or40, u64_or48, u64_or56]
  congr 1
  omega
theorem or_step {w b : Int} (h0 : 0 ≤ w) (h1 : w < 72057594037927936) (h2 : 0 ≤ b) (h3 : b ≤ 255) : Go.bits .or .u64 (IntKind.u64.wrap (w * 256)) (IntKind.u64.wrap b) = w * 256 + b := by
  rw [u64_wrap_id _ (by omega) (by omega), u64_wrap_id _ (by omega) (by omega)]
  exact bits_join .u64 64 (by decide) wraps_u64 8 _ _ (by omega) (by omega) (by omega) (by omega) (by omega) (by omega)
def p256 : Nat → Int
  | 0 => 1
  | n + 1 => 256 * p256 n
theorem p256_le {m : Nat} (h : m ≤ 7) : p256 m ≤ 72057594037927936 := by
  rcases (by omega : m = 0 ∨ m = 1 ∨ m = 2 ∨ m = 3 ∨ m = 4 ∨ m = 5 ∨ m = 6 ∨ m = 7) with rfl | rfl | rfl | rfl | rfl | rfl | rfl | rfl <;> decide
theorem spec_word_l (n : Nat) : ∀ (k : Nat) (s : ByteArray) (i : Nat) (w : Int) (j : Nat), j = i + 8 - n → n ≤ 8 → n < k → i + 8 ≤ s.size → s.size ≤ 1000000 → 0 ≤ w → w < p256 (8 - n) →
    spec_l1Word.l0 k s (i : Int) w (j : Int) = some ((((bytesOf s).drop j).take n).foldl (fun w b => w * 256 + b) w) := by
  induction n with
  | zero =>
    intro k s i w j hj hn hk hs hm h0 h1
    obtain ⟨k, rfl⟩ : ∃ m, k = m + 1 := ⟨k - 1, by omega⟩
    simp only [spec_l1Word.l0]
    rw [if_neg (by unfold wrap64; omega)]
    rfl
  | succ n ih =>
    intro k s i w j hj hn hk hs hm h0 h1
    obtain ⟨k, rfl⟩ : ∃ m, k = m + 1 := ⟨k - 1, by omega⟩
    have hl : j < (bytesOf s).length := by rw [bytesOf_length]; omega
    have hb := bytesOf_8 s _ (List.getElem_mem hl)
    have hw : w < 72057594037927936 := Int.lt_of_lt_of_le h1 (p256_le (by omega))
    simp only [spec_l1Word.l0]
    rw [if_pos (by unfold wrap64; omega), if_pos (by omega), if_pos (by omega), bt_nat hl, or_step h0 hw hb.1 hb.2, show wrap64 ((j : Int) + 1) = ((j + 1 : Nat) : Int) by unfold wrap64; omega]
    rw [ih k s i _ (j + 1) (by omega) (by omega) (by omega) hs hm (by omega) (by
      rw [show 8 - n = (8 - (n + 1)) + 1 by omega]
      simp only [p256]
      omega)]
    rw [List.drop_eq_getElem_cons hl, List.take_succ_cons, List.foldl_cons]
theorem spec_word {k : Nat} (hk : 9 ≤ k) (s : ByteArray) (i : Nat) (h : i + 8 ≤ s.size) (hm : s.size ≤ 1000000) : spec_l1Word.f k s (i : Int) = some (w8 ((bytesOf s).drop i)) := by
  unfold spec_l1Word.f
  exact spec_word_l 8 k s i 0 i (by omega) (by omega) (by omega) h hm (by omega) (by decide)
def bareL (l : List Int) : List Int := l.filter fun x => !(x == 255)
theorem bareL_ne {x : Int} (l : List Int) (h : ¬ x = 255) : bareL (x :: l) = x :: bareL l := by simp [bareL, h]
theorem bareL_eq {x : Int} (l : List Int) (h : x = 255) : bareL (x :: l) = bareL l := by simp [bareL, h]
def zn (m : Nat) : Nat := (32 - (m + 9) % 32) % 32
def padL (l : List Int) : List Int := l ++ [128] ++ List.replicate (zn l.length) 0 ++ be8 (l.length : Int)
theorem padL_length (l : List Int) : (padL l).length = l.length + 9 + zn l.length := by simp [padL, be8_length]; omega
theorem padL_32 (l : List Int) : (padL l).length % 32 = 0 := by rw [padL_length]; unfold zn; omega
theorem bareL_8 {l : List Int} (h : Bytes8 l) : Bytes8 (bareL l) := fun x hx => h x (List.mem_filter.1 hx).1
theorem bareL_le (l : List Int) : (bareL l).length ≤ l.length := List.length_filter_le _ _
theorem padL_8 {l : List Int} (h : Bytes8 l) : Bytes8 (padL l) := by
  unfold padL
  refine Bytes8.append (Bytes8.append (Bytes8.append h ?_) ?_) (be8_8 _)
  · intro x hx; simp at hx; omega
  · intro x hx; have := (List.mem_replicate.1 hx).2; omega
def hfold : Nat → List Int → D4 → D4
  | 0, _, s => s
  | n + 1, l, s => hfold n (l.drop 32) (hb s (w8 l, w8 (l.drop 8), w8 (l.drop 16), w8 (l.drop 24)))
def iv : D4 := (13971524466476933880, 3286059910148148165, 8210247237615983910, 11412903256176698835)
def hashL (l : List Int) : D4 := hfold ((padL (bareL l)).length / 32) (padL (bareL l)) iv
def hashOf (s : ByteArray) : D4 := if s.size > 20000 then (0, 0, 0, 0) else hashL (bytesOf s)
theorem spec_bare_l (n : Nat) : ∀ (k : Nat) (s : ByteArray) (acc : List Int) (i : Nat), s.size = i + n → n < k → s.size ≤ 1000000 → acc.length ≤ i → spec_l1Bare.l0 k s acc (i : Int) = some (strOfNums (acc ++ bareL ((bytesOf s).drop i))) := by
  induction n with
  | zero =>
    intro k s acc i hs hk hm ha
    obtain ⟨k, rfl⟩ : ∃ m, k = m + 1 := ⟨k - 1, by omega⟩
    simp only [spec_l1Bare.l0]
    rw [if_neg (by omega), List.drop_of_length_le (by rw [bytesOf_length]; omega)]
    simp [bareL]
  | succ n ih =>
    intro k s acc i hs hk hm ha
    obtain ⟨k, rfl⟩ : ∃ m, k = m + 1 := ⟨k - 1, by omega⟩
    have hl : i < (bytesOf s).length := by rw [bytesOf_length]; omega
    simp only [spec_l1Bare.l0]
    rw [if_pos (by omega), if_pos (by omega), bt_nat hl, show wrap64 ((i : Int) + 1) = ((i + 1 : Nat) : Int) by unfold wrap64; omega, List.drop_eq_getElem_cons hl]
    by_cases h : (bytesOf s)[i] = 255
    · rw [if_pos h, ih k s acc (i + 1) (by omega) (by omega) hm (by omega), bareL_eq _ h]
    · rw [if_neg h, if_pos (by omega), ih k s _ (i + 1) (by omega) (by omega) hm (by simp; omega), bareL_ne _ h, List.append_assoc, List.singleton_append]
theorem spec_bare {k : Nat} (s : ByteArray) (hs : s.size ≤ 1000000) (hk : s.size < k) : spec_l1Bare.f k s = some (strOfNums (bareL (bytesOf s))) := by
  unfold spec_l1Bare.f
  have := spec_bare_l s.size k s [] 0 (by omega) hk hs (by simp)
  simpa using this
theorem spec_zeros_l (n : Nat) : ∀ (k m : Nat) (acc : List Int) (i : Nat), m = i + n → n < k → m ≤ 1000 → acc.length = i → spec_l1Zeros.l0 k (m : Int) acc (i : Int) = some (strOfNums (acc ++ List.replicate n 0)) := by
  induction n with
  | zero =>
    intro k m acc i hs hk hm ha
    obtain ⟨k, rfl⟩ : ∃ m, k = m + 1 := ⟨k - 1, by omega⟩
    simp only [spec_l1Zeros.l0]
    rw [if_neg (by omega)]
    simp
  | succ n ih =>
    intro k m acc i hs hk hm ha
    obtain ⟨k, rfl⟩ : ∃ m, k = m + 1 := ⟨k - 1, by omega⟩
    simp only [spec_l1Zeros.l0]
    rw [if_pos (by omega), if_pos (by omega), show wrap64 ((i : Int) + 1) = ((i + 1 : Nat) : Int) by unfold wrap64; omega, ih k m _ (i + 1) (by omega) (by omega) hm (by simp; omega)]
    simp [List.replicate_succ]
theorem spec_zeros {k n : Nat} (hn : n ≤ 1000) (hk : n < k) : spec_l1Zeros.f k (n : Int) = some (strOfNums (List.replicate n 0)) := by
  unfold spec_l1Zeros.f
  have := spec_zeros_l n k n [] 0 (by omega) hk hn rfl
  simpa using this
theorem spec_fold_l (n : Nat) : ∀ (k : Nat) (l : List Int) (i : Nat) (s : D4), Bytes8 l → l.length = i + 32 * n → n + 11 < k → l.length ≤ 1000000 →
    spec_HashOf.l0 k (strOfNums l) (i : Int) s.1 s.2.1 s.2.2.1 s.2.2.2 = some (hfold n (l.drop i) s) := by
  induction n with
  | zero =>
    intro k l i s hb hl hk hm
    obtain ⟨k, rfl⟩ : ∃ m, k = m + 1 := ⟨k - 1, by omega⟩
    simp only [spec_HashOf.l0]
    rw [if_neg (by rw [str_size]; omega)]
    rfl
  | succ n ih =>
    intro k l i s hb8 hl hk hm
    obtain ⟨k, rfl⟩ : ∃ m, k = m + 1 := ⟨k - 1, by omega⟩
    simp only [spec_HashOf.l0]
    rw [if_pos (by rw [str_size]; omega), spec_word (by omega) _ i (by rw [str_size]; omega) (by rw [str_size]; omega)]
    simp only [Option.bind_some]
    rw [show wrap64 ((i : Int) + 8) = ((i + 8 : Nat) : Int) by unfold wrap64; omega, spec_word (by omega) _ (i + 8) (by rw [str_size]; omega) (by rw [str_size]; omega)]
    simp only [Option.bind_some]
    rw [show wrap64 ((i : Int) + 16) = ((i + 16 : Nat) : Int) by unfold wrap64; omega, spec_word (by omega) _ (i + 16) (by rw [str_size]; omega) (by rw [str_size]; omega)]
    simp only [Option.bind_some]
    rw [show wrap64 ((i : Int) + 24) = ((i + 24 : Nat) : Int) by unfold wrap64; omega, spec_word (by omega) _ (i + 24) (by rw [str_size]; omega) (by rw [str_size]; omega)]
    simp only [Option.bind_some]
    rw [spec_block (by omega)]
    simp only [Option.bind_some]
    rw [show wrap64 ((i : Int) + 32) = ((i + 32 : Nat) : Int) by unfold wrap64; omega, ih k l (i + 32) _ hb8 (by omega) (by omega) hm, bytesOf_str l hb8]
    simp only [hfold, List.drop_drop]
theorem spec_hash {k : Nat} (hk : 30000 ≤ k) (s : ByteArray) : spec_HashOf.f k s = some (hashOf s) := by
  unfold spec_HashOf.f hashOf
  by_cases h : s.size > 20000
  · rw [if_pos (by omega), if_pos h]
  · rw [if_neg (by omega), if_neg h, spec_bare s (by omega) (by omega)]
    have hb := bareL_8 (bytesOf_8 s)
    have hle := bareL_le (bytesOf s)
    rw [bytesOf_length] at hle
    have hp : padL (bareL (bytesOf s)) = bareL (bytesOf s) ++ [128] ++ List.replicate (zn (bareL (bytesOf s)).length) 0 ++ be8 ((bareL (bytesOf s)).length : Int) := rfl
    have h32 := padL_32 (bareL (bytesOf s))
    have hpl := padL_length (bareL (bytesOf s))
    have hz : zn (bareL (bytesOf s)).length < 32 := by unfold zn; omega
    have hp8 := padL_8 hb
    unfold hashL
    generalize bareL (bytesOf s) = l at *
    simp only [Option.bind_some, str_size]
    rw [if_pos (by simp; omega), show Int.tmod (wrap64 (32 - (Int.tmod (wrap64 ((l.length : Int) + 9)) 32))) 32 = ((zn l.length : Nat) : Int) by
      rw [w64 (x := (l.length : Int) + 9) (by omega) (by omega), show Int.tmod ((l.length : Int) + 9) 32 = (((l.length + 9) % 32 : Nat) : Int) by rw [Int.tmod_eq_emod_of_nonneg (by omega)]; omega, w64 (by omega) (by omega), Int.tmod_eq_emod_of_nonneg (by omega)]
      unfold zn
      omega, spec_zeros (by omega) (by omega)]
    simp only [Option.bind_some, str_append, str_size]
    rw [if_pos (by simp; omega), show IntKind.u64.wrap ((l.length : Int)) = (l.length : Int) from wrap_lit _ (by omega), spec_bytes (by omega)]
    simp only [Option.bind_some, str_append, str_size]
    rw [if_pos (by simp [be8_length]; omega), ← hp]
    have := spec_fold_l ((padL l).length / 32) k (padL l) 0 iv hp8 (by omega) (by omega) (by omega)
    exact this
theorem digest_is {l : List Int} (h : l.length = 32) (hb : Bytes8 l) : impl_digestOf.f l = some (w8 l, w8 (l.drop 8), w8 (l.drop 16), w8 (l.drop 24)) := by
  unfold impl_digestOf.f
  rw [u64_is (by omega) hb]
  simp only [Option.bind_some]
  rw [if_pos (by omega), u64_is (by rw [List.length_drop]; omega) (hb.drop _)]
  simp only [Option.bind_some]
  rw [if_pos (by omega), u64_is (by rw [List.length_drop]; omega) (hb.drop _)]
  simp only [Option.bind_some]
  rw [if_pos (by omega), u64_is (by rw [List.length_drop]; omega) (hb.drop _)]
  simp only [Option.bind_some]
theorem w8_take (l : List Int) (m : Nat) (h : 8 ≤ m) : w8 (l.take m) = w8 l := by
  unfold w8
  rw [List.take_take, Nat.min_eq_left h]
theorem impl_fold_l (n : Nat) : ∀ (k : Nat) (l : List Int) (i : Nat) (s : D4), Bytes8 l → l.length = i + 32 * n → n + 11 < k → l.length ≤ 1000000 →
    impl_HashOf.l2 k l (i : Int) s.1 s.2.1 s.2.2.1 s.2.2.2 = some (hfold n (l.drop i) s) := by
  induction n with
  | zero =>
    intro k l i s hb hl hk hm
    obtain ⟨k, rfl⟩ : ∃ m, k = m + 1 := ⟨k - 1, by omega⟩
    simp only [impl_HashOf.l2]
    rw [if_neg (by omega)]
    rfl
  | succ n ih =>
    intro k l i s hb8 hl hk hm
    obtain ⟨k, rfl⟩ : ∃ m, k = m + 1 := ⟨k - 1, by omega⟩
    simp only [impl_HashOf.l2]
    rw [show wrap64 ((i : Int) + 32) = ((i + 32 : Nat) : Int) by unfold wrap64; omega, if_pos (by omega), if_pos (by omega), if_pos (by omega), if_pos (by omega)]
    rw [show (((i + 32 : Nat) : Int)).toNat = i + 32 from rfl, show ((i : Nat) : Int).toNat = i from rfl]
    have e : (l.take (i + 32)).drop i = (l.drop i).take 32 := by rw [List.drop_take]; congr 1; omega
    rw [e, digest_is (by rw [List.length_take, List.length_drop]; omega) ((hb8.drop _).take _)]
    simp only [Option.bind_some]
    rw [impl_block (by omega)]
    simp only [Option.bind_some]
    rw [ih k l (i + 32) _ hb8 (by omega) (by omega) hm]
    simp only [hfold, List.drop_drop, List.drop_take, w8_take _ 32 (by omega), w8_take _ (32 - 8) (by omega), w8_take _ (32 - 16) (by omega), w8_take _ (32 - 24) (by omega)]
theorem impl_pad_l (z : Nat) : ∀ (k : Nat) (x : List Int) (v : Int), Bytes8 x → (x.length + z) % 32 = 24 → z < 32 → 2000 + z < k → x.length + z ≤ 30000 →
    impl_HashOf.l1 k x v = some (hfold ((x.length + z + 8) / 32) (x ++ List.replicate z 0 ++ be8 v) iv) := by
  induction z with
  | zero =>
    intro k x v hb hz _ hk hm
    obtain ⟨k, rfl⟩ : ∃ m, k = m + 1 := ⟨k - 1, by omega⟩
    simp only [impl_HashOf.l1]
    rw [if_pos (by omega), app64 _ _ (by omega)]
    simp only [Option.bind_some]
    have := impl_fold_l ((x.length + 8) / 32) k (x ++ be8 v) 0 iv (hb.append (be8_8 v)) (by simp [be8_length]; omega) (by omega) (by simp [be8_length]; omega)
    simp only [List.drop_zero] at this
    simp only [List.replicate_zero, List.append_nil, Nat.add_zero]
    exact this
  | succ z ih =>
    intro k x v hb hz hz2 hk hm
    obtain ⟨k, rfl⟩ : ∃ m, k = m + 1 := ⟨k - 1, by omega⟩
    simp only [impl_HashOf.l1]
    rw [if_neg (by omega), if_pos (by omega)]
    rw [ih k (x ++ [0]) v (hb.append (by intro y hy; simp at hy; omega)) (by simp; omega) (by omega) (by omega) (by simp; omega)]
    simp only [List.length_append, List.length_singleton, List.append_assoc, List.replicate_succ, List.singleton_append]
    rw [show x.length + 1 + z + 8 = x.length + (z + 1) + 8 by omega]
theorem impl_bare_l (n : Nat) : ∀ (k : Nat) (s : ByteArray) (acc : List Int) (i : Nat), s.size = i + n → n + 2100 < k → s.size ≤ 20000 → acc.length ≤ i → Bytes8 acc →
    impl_HashOf.l0 k s acc (i : Int) = some (hfold ((padL (acc ++ bareL ((bytesOf s).drop i))).length / 32) (padL (acc ++ bareL ((bytesOf s).drop i))) iv) := by
  induction n with
  | zero =>
    intro k s acc i hs hk hm ha h8
    obtain ⟨k, rfl⟩ : ∃ m, k = m + 1 := ⟨k - 1, by omega⟩
    simp only [impl_HashOf.l0]
    rw [if_neg (by omega), if_pos (by omega), List.drop_of_length_le (by rw [bytesOf_length]; omega)]
    simp only [bareL, List.filter_nil, List.append_nil]
    rw [show IntKind.u64.wrap ((acc.length : Int)) = (acc.length : Int) from wrap_lit _ (by omega)]
    rw [impl_pad_l (zn acc.length) k (acc ++ [128]) _ (h8.append (by intro y hy; simp at hy; omega)) (by simp; unfold zn; omega) (by unfold zn; omega) (by unfold zn; omega) (by simp; unfold zn; omega)]
    rw [padL_length]
    unfold padL
    simp only [List.length_append, List.length_singleton]
    rw [show acc.length + 1 + zn acc.length + 8 = acc.length + 9 + zn acc.length by omega]
  | succ n ih =>
    intro k s acc i hs hk hm ha h8
    obtain ⟨k, rfl⟩ : ∃ m, k = m + 1 := ⟨k - 1, by omega⟩
    have hl : i < (bytesOf s).length := by rw [bytesOf_length]; omega
    simp only [impl_HashOf.l0]
    rw [if_pos (by omega), if_pos (by omega), bt_nat hl, show wrap64 ((i : Int) + 1) = ((i + 1 : Nat) : Int) by unfold wrap64; omega, List.drop_eq_getElem_cons hl]
    by_cases h : (bytesOf s)[i] = 255
    · rw [if_pos h, ih k s acc (i + 1) (by omega) (by omega) hm (by omega) h8, bareL_eq _ h]
    · rw [if_neg h, if_pos (by omega), ih k s _ (i + 1) (by omega) (by omega) hm (by simp; omega) (h8.append (by intro y hy; simp at hy; subst hy; exact bytesOf_8 s _ (List.getElem_mem hl))), bareL_ne _ h, List.append_assoc, List.singleton_append]
theorem impl_hash {k : Nat} (hk : 30000 ≤ k) (s : ByteArray) : impl_HashOf.f k s = some (hashOf s) := by
  unfold impl_HashOf.f hashOf
  by_cases h : s.size > 20000
  · rw [if_pos (by omega), if_pos h]
  · rw [if_neg (by omega), if_neg h]
    have := impl_bare_l s.size k s [] 0 (by omega) (by omega) (by omega) (by simp) (by intro x hx; simp at hx)
    simpa [hashL] using this
end Go.Proofs.Ytflckegggopdnaa.Q
end
section
namespace Go.Proofs.Ytflckegggopdnaa.Q
open Go.RowKit Go.Proofs.Ytflckegggopdnaa.B Go.Proofs.YtflckegggopdnaaW.PrintWords Go.Proofs.YtflckegggopdnaaW.PrintLast Go.Proofs.YtflckegggopdnaaW.PrintMore
def leafText (s : ByteArray) : ByteArray := (⟨#[0]⟩ : ByteArray) ++ s
def pairText (x y : D4) : ByteArray := strOfNums (1 :: (be32 x ++ be32 y))
def hashLeaf (s : ByteArray) : D4 := hashOf (leafText s)
def hashPair (x y : D4) : D4 := hashOf (pairText x y)
theorem spec_leafText {s : ByteArray} (h : s.size ≤ 4611686018427387904) : spec_l1LeafText.f s = some (leafText s) := by
  unfold spec_l1LeafText.f
  simp only [Option.bind_some, str_size]
  rw [if_pos (by simp; omega)]
  rfl
theorem impl_leafText {s : ByteArray} (h : s.size ≤ 4611686018427387904) : impl_leafText.f s = some (leafText s) := by
  unfold impl_leafText.f
  rw [if_pos (by omega)]
  rfl
theorem spec_leaf {k : Nat} (hk : 30000 ≤ k) {s : ByteArray} (h : s.size ≤ 4611686018427387904) : spec_HashLeaf.f k s = some (hashLeaf s) := by
  unfold spec_HashLeaf.f
  rw [spec_leafText h]
  simp only [Option.bind_some]
  rw [spec_hash hk]
  rfl
theorem impl_leaf {k : Nat} (hk : 30000 ≤ k) {s : ByteArray} (h : s.size ≤ 4611686018427387904) : impl_HashLeaf.f k s = some (hashLeaf s) := by
  unfold impl_HashLeaf.f
  rw [impl_leafText h]
  simp only [Option.bind_some]
  rw [impl_hash hk]
  rfl
theorem spec_pairText {k : Nat} (hk : 9 ≤ k) (a b c d x y z u : Int) : spec_l1PairText.f k a b c d x y z u = some (pairText (a, b, c, d) (x, y, z, u)) := by
  unfold spec_l1PairText.f
  rw [spec_hbytes hk, spec_hbytes hk]
  simp only [Option.bind_some, str_size, str_append]
  rw [if_pos (by simp [be32_length]), if_pos (by simp [be32_length])]
  rfl
theorem impl_pairText {k : Nat} (hk : 9 ≤ k) (a b c d x y z u : Int) : impl_pairText.f k a b c d x y z u = some (pairText (a, b, c, d) (x, y, z, u)) := by
  unfold impl_pairText.f
  rw [impl_hbytes (by omega), impl_hbytes (by omega)]
  simp only [Option.bind_some, show (⟨#[1]⟩ : ByteArray) = strOfNums [1] from rfl, str_size, str_append]
  rw [if_pos (by simp [be32_length]), if_pos (by simp [be32_length])]
  rfl
theorem spec_pair {k : Nat} (hk : 30000 ≤ k) (a b c d x y z u : Int) : spec_HashPair.f k a b c d x y z u = some (hashPair (a, b, c, d) (x, y, z, u)) := by
  unfold spec_HashPair.f
  rw [spec_pairText (by omega)]
  simp only [Option.bind_some]
  rw [spec_hash hk]
  rfl
theorem impl_pair {k : Nat} (hk : 30000 ≤ k) (a b c d x y z u : Int) : impl_HashPair.f k a b c d x y z u = some (hashPair (a, b, c, d) (x, y, z, u)) := by
  unfold impl_HashPair.f
  rw [impl_pairText (by omega)]
  simp only [Option.bind_some]
  rw [impl_hash hk]
  rfl
end Go.Proofs.Ytflckegggopdnaa.Q
end
section
namespace Go.Proofs.Ytflckegggopdnaa.Q
open Go.RowKit Go.Proofs.Ytflckegggopdnaa.B Go.Proofs.YtflckegggopdnaaW.PrintWords Go.Proofs.YtflckegggopdnaaW.PrintLast Go.Proofs.YtflckegggopdnaaW.PrintMore
theorem bs {α β : Type} {x : Option α} {v : α} {F : α → Option β} {r : Option β} (h : x = some v) (k : F v = r) : x.bind F = r := by rw [h]; exact k
def rootF : Nat → List ByteArray → D4
  | 0, _ => hashOf ⟨#[]⟩
  | _ + 1, [] => hashOf ⟨#[]⟩
  | _ + 1, [s] => hashLeaf s
  | f + 1, a :: b :: l => hashPair (rootF f ((a :: b :: l).take (spl (l.length + 2)))) (rootF f ((a :: b :: l).drop (spl (l.length + 2))))
theorem impl_root_l (f : Nat) : ∀ (k : Nat) (l : List ByteArray), l.length ≤ f → l.length ≤ 256 → (∀ s ∈ l, s.size ≤ 4611686018427387904) → 30000 + f < k → impl_rootOf.f k l = some (rootF f l) := by
  induction f with
  | zero =>
    intro k l hl _ _ hk
    obtain ⟨k, rfl⟩ : ∃ m, k = m + 1 := ⟨k - 1, by omega⟩
    obtain rfl : l = [] := List.eq_nil_of_length_eq_zero (by omega)
    simp only [impl_rootOf.f]
    rw [if_pos (by rfl)]
    exact bs (impl_hash (by omega) _) rfl
  | succ f ih =>
    intro k l hl h2 hz hk
    obtain ⟨k, rfl⟩ : ∃ m, k = m + 1 := ⟨k - 1, by omega⟩
    match l, hl, h2, hz with
    | [], _, _, _ =>
      simp only [impl_rootOf.f]
      rw [if_pos (by rfl)]
      exact bs (impl_hash (by omega) _) rfl
    | [s], _, _, hz =>
      simp only [impl_rootOf.f]
      rw [if_neg (by simp), if_pos (by simp), if_pos (by simp)]
      exact bs (impl_leaf (by omega) (hz s List.mem_cons_self)) rfl
    | a :: b :: l, hl, h2, hz =>
      simp only [List.length_cons] at hl h2
      have hs := spl_lt (n := l.length + 2) (by omega) (by omega)
      have e1 : (a :: b :: l).length = l.length + 2 := by simp
      simp only [impl_rootOf.f, rootF]
      rw [e1, if_neg (by omega), if_neg (by omega)]
      refine bs (impl_split (by omega) (by omega) (by omega)) ?_
      rw [if_pos (by omega), if_pos (by omega), Int.toNat_natCast]
      refine bs (ih k _ (by rw [List.length_take]; omega) (by rw [List.length_take]; omega) (fun s hs => hz s (List.mem_of_mem_take hs)) (by omega)) ?_
      refine bs (ih k _ (by rw [List.length_drop]; omega) (by rw [List.length_drop]; omega) (fun s hs => hz s (List.mem_of_mem_drop hs)) (by omega)) ?_
      exact bs (impl_pair (by omega) _ _ _ _ _ _ _ _) rfl
theorem spec_root_l (f : Nat) : ∀ (k : Nat) (l : List ByteArray), l.length ≤ f → l.length ≤ 256 → (∀ s ∈ l, s.size ≤ 4611686018427387904) → 30000 + f < k → spec_l2Root.f k l = some (rootF f l) := by
  induction f with
  | zero =>
    intro k l hl _ _ hk
    obtain ⟨k, rfl⟩ : ∃ m, k = m + 1 := ⟨k - 1, by omega⟩
    obtain rfl : l = [] := List.eq_nil_of_length_eq_zero (by omega)
    simp only [spec_l2Root.f]
    rw [if_pos (by rfl)]
    exact bs (spec_hash (by omega) _) rfl
  | succ f ih =>
    intro k l hl h2 hz hk
    obtain ⟨k, rfl⟩ : ∃ m, k = m + 1 := ⟨k - 1, by omega⟩
    match l, hl, h2, hz with
    | [], _, _, _ =>
      simp only [spec_l2Root.f]
      rw [if_pos (by rfl)]
      exact bs (spec_hash (by omega) _) rfl
    | [s], _, _, hz =>
      simp only [spec_l2Root.f]
      rw [if_neg (by simp), if_pos (by simp), if_pos (by simp)]
      exact bs (spec_leaf (by omega) (hz s List.mem_cons_self)) rfl
    | a :: b :: l, hl, h2, hz =>
      simp only [List.length_cons] at hl h2
      have hs := spl_lt (n := l.length + 2) (by omega) (by omega)
      have e1 : (a :: b :: l).length = l.length + 2 := by simp
      simp only [spec_l2Root.f, rootF]
      rw [e1, if_neg (by omega), if_neg (by omega)]
      refine bs (spec_split (by omega) (by omega) (by omega)) ?_
      rw [if_pos (by omega), if_pos (by omega), Int.toNat_natCast]
      refine bs (ih k _ (by rw [List.length_take]; omega) (by rw [List.length_take]; omega) (fun s hs => hz s (List.mem_of_mem_take hs)) (by omega)) ?_
      refine bs (ih k _ (by rw [List.length_drop]; omega) (by rw [List.length_drop]; omega) (fun s hs => hz s (List.mem_of_mem_drop hs)) (by omega)) ?_
      exact bs (spec_pair (by omega) _ _ _ _ _ _ _ _) rfl
def root (l : List ByteArray) : D4 := rootF 256 l
theorem impl_root {k : Nat} (hk : 31000 ≤ k) {l : List ByteArray} (h : l.length ≤ 256) (hz : ∀ s ∈ l, s.size ≤ 4611686018427387904) : impl_rootOf.f k l = some (root l) := impl_root_l 256 k l h h hz (by omega)
theorem spec_root {k : Nat} (hk : 31000 ≤ k) {l : List ByteArray} (h : l.length ≤ 256) (hz : ∀ s ∈ l, s.size ≤ 4611686018427387904) : spec_l2Root.f k l = some (root l) := spec_root_l 256 k l h h hz (by omega)
end Go.Proofs.Ytflckegggopdnaa.Q
end
section
namespace Go.Proofs.Ytflckegggopdnaa.Q
open Go.RowKit Go.Proofs.Ytflckegggopdnaa.B Go.Proofs.YtflckegggopdnaaW.PrintWords Go.Proofs.YtflckegggopdnaaW.PrintLast Go.Proofs.YtflckegggopdnaaW.PrintMore
def leavesOk (l : List ByteArray) : Bool := decide (l.length ≤ 256) && l.all fun s => decide (s.size ≤ 40)
theorem drop_all {l : List ByteArray} {i : Nat} (p : ByteArray → Bool) (h : i < l.length) : (l.drop i).all p = (p l[i] && (l.drop (i + 1)).all p) := by
  rw [List.drop_eq_getElem_cons h, List.all_cons]
theorem spec_leaves_l (n : Nat) : ∀ (k : Nat) (l : List ByteArray) (i : Nat), l.length = i + n → n < k → l.length < 1099511627776 → spec_LeavesOk.l0 k l (i : Int) = some ((l.drop i).all fun s => decide (s.size ≤ 40)) := by
  induction n with
  | zero =>
    intro k l i hl hk hm
    obtain ⟨k, rfl⟩ : ∃ m, k = m + 1 := ⟨k - 1, by omega⟩
    simp only [spec_LeavesOk.l0]
    rw [if_neg (by omega), List.drop_of_length_le (by omega)]
    rfl
  | succ n ih =>
    intro k l i hl hk hm
    obtain ⟨k, rfl⟩ : ∃ m, k = m + 1 := ⟨k - 1, by omega⟩
    have hi : i < l.length := by omega
    simp only [spec_LeavesOk.l0]
    rw [if_pos (by omega), if_pos (by omega), rdOf_nat hi, step64 (by omega), drop_all _ hi]
    by_cases h : (l[i].size : Int) > 40
    · rw [if_pos h, show decide (l[i].size ≤ 40) = false from by simp; omega, Bool.false_and]
    · rw [if_neg h, ih k l (i + 1) (by omega) (by omega) hm, show decide (l[i].size ≤ 40) = true from by simp; omega, Bool.true_and]
theorem spec_leaves {k : Nat} (l : List ByteArray) (hk : l.length < k) (hm : l.length < 1099511627776) : spec_LeavesOk.f k l = some (leavesOk l) := by
  unfold spec_LeavesOk.f leavesOk
  by_cases h : (l.length : Int) > 256
  · rw [if_pos h, show decide (l.length ≤ 256) = false from by simp; omega, Bool.false_and]
  · rw [if_neg h, show decide (l.length ≤ 256) = true from by simp; omega, Bool.true_and]
    have := spec_leaves_l l.length k l 0 (by omega) hk hm
    simpa using this
theorem impl_leaves_l (n : Nat) : ∀ (k : Nat) (l : List ByteArray) (i : Nat), l.length = i + n → n < k → l.length < 1099511627776 → impl_LeavesOk.l0 k l l (l.length : Int) (i : Int) = some (decide (l.length ≤ 256) && (l.drop i).all fun s => decide (s.size ≤ 40)) := by
  induction n with
  | zero =>
    intro k l i hl hk hm
    obtain ⟨k, rfl⟩ : ∃ m, k = m + 1 := ⟨k - 1, by omega⟩
    simp only [impl_LeavesOk.l0]
    have e : decide ((l.length : Int) ≤ 256) = decide (l.length ≤ 256) := by rw [Bool.eq_iff_iff]; simp; omega
    rw [if_neg (by omega), List.drop_of_length_le (by omega), e, List.all_nil, Bool.and_true]
  | succ n ih =>
    intro k l i hl hk hm
    obtain ⟨k, rfl⟩ : ∃ m, k = m + 1 := ⟨k - 1, by omega⟩
    have hi : i < l.length := by omega
    simp only [impl_LeavesOk.l0]
    rw [if_pos (by omega), if_pos (by omega), if_pos (by omega), rdOf_nat hi, step64 (by omega), drop_all _ hi]
    by_cases h : (l[i].size : Int) > 40
    · rw [if_pos h, show decide (l[i].size ≤ 40) = false from by simp; omega, Bool.false_and, Bool.and_false]
    · rw [if_neg h, ih k l (i + 1) (by omega) (by omega) hm, show decide (l[i].size ≤ 40) = true from by simp; omega, Bool.true_and]
theorem impl_leaves {k : Nat} (l : List ByteArray) (hk : l.length < k) (hm : l.length < 1099511627776) : impl_LeavesOk.f k l = some (leavesOk l) := by
  unfold impl_LeavesOk.f leavesOk
  have := impl_leaves_l l.length k l 0 (by omega) hk hm
  simpa using this
end Go.Proofs.Ytflckegggopdnaa.Q
end
section
namespace Go.Proofs.Ytflckegggopdnaa.Q
open Go.RowKit Go.Proofs.Ytflckegggopdnaa.B Go.Proofs.YtflckegggopdnaaW.PrintWords Go.Proofs.YtflckegggopdnaaW.PrintLast Go.Proofs.YtflckegggopdnaaW.PrintMore
set_option linter.unusedVariables false
set_option linter.unusedSimpArgs false
def toSD (d : D4) : SD := ⟨d.1, d.2.1, d.2.2.1, d.2.2.2⟩
theorem copiedD {l : List SD} (h : l.length ≤ 1000000) : impl_Digest.f l = some l := by
  unfold impl_Digest.f
  rw [if_pos (by omega)]
theorem leaves_fit {l : List ByteArray} (c : leavesOk l = true) : l.length ≤ 256 ∧ ∀ s ∈ l, s.size ≤ 4611686018427387904 := by
  simp only [leavesOk, Bool.and_eq_true, decide_eq_true_eq, List.all_eq_true] at c
  exact ⟨c.1, fun s hs => Nat.le_trans (c.2 s hs) (by omega)⟩
theorem rootF_fuel (f : Nat) : ∀ (g : Nat) (l : List ByteArray), l.length ≤ f → f ≤ g → l.length ≤ 256 → rootF g l = rootF f l := by
  induction f with
  | zero =>
    intro g l h _ _
    obtain rfl : l = [] := List.eq_nil_of_length_eq_zero (by omega)
    cases g <;> rfl
  | succ f ih =>
    intro g l h hg h2
    obtain ⟨g, rfl⟩ : ∃ m, g = m + 1 := ⟨g - 1, by omega⟩
    match l, h, h2 with
    | [], _, _ => rfl
    | [s], _, _ => rfl
    | a :: b :: l, h, h2 =>
      simp only [List.length_cons] at h h2
      have hs := spl_lt (n := l.length + 2) (by omega) (by omega)
      simp only [rootF]
      rw [ih g _ (by rw [List.length_take, List.length_cons, List.length_cons]; omega) (by omega) (by rw [List.length_take, List.length_cons, List.length_cons]; omega),
        ih g _ (by rw [List.length_drop, List.length_cons, List.length_cons]; omega) (by omega) (by rw [List.length_drop, List.length_cons, List.length_cons]; omega)]
theorem root_split {l : List ByteArray} (h0 : 2 ≤ l.length) (h1 : l.length ≤ 256) : root l = hashPair (root (l.take (spl l.length))) (root (l.drop (spl l.length))) := by
  match l, h0, h1 with
  | a :: b :: l, _, h1 =>
    simp only [List.length_cons] at h1
    have hs := spl_lt (n := l.length + 2) (by omega) (by omega)
    have e1 : (a :: b :: l).length = l.length + 2 := by simp
    unfold root
    rw [e1]
    have e2 : rootF 256 (a :: b :: l) = hashPair (rootF 255 ((a :: b :: l).take (spl (l.length + 2)))) (rootF 255 ((a :: b :: l).drop (spl (l.length + 2)))) := rfl
    rw [e2, rootF_fuel 255 256 ((a :: b :: l).take (spl (l.length + 2))) (by rw [List.length_take, e1]; omega) (by omega) (by rw [List.length_take, e1]; omega),
      rootF_fuel 255 256 ((a :: b :: l).drop (spl (l.length + 2))) (by rw [List.length_drop, e1]; omega) (by omega) (by rw [List.length_drop, e1]; omega)]
end Go.Proofs.Ytflckegggopdnaa.Q
end
section
namespace Go.Proofs.Ytflckegggopdnaa.Q
open Go.RowKit Go.Proofs.Ytflckegggopdnaa.B Go.Proofs.YtflckegggopdnaaW.PrintWords Go.Proofs.YtflckegggopdnaaW.PrintLast Go.Proofs.YtflckegggopdnaaW.PrintMore
end Go.Proofs.Ytflckegggopdnaa.Q
end
section
namespace Go.Proofs.Ytflckegggopdnaa.Q
open Go.RowKit Go.Proofs.Ytflckegggopdnaa.B Go.Proofs.YtflckegggopdnaaW.PrintWords Go.Proofs.YtflckegggopdnaaW.PrintLast Go.Proofs.YtflckegggopdnaaW.PrintMore
set_option linter.unusedVariables false
set_option linter.unusedSimpArgs false
theorem bsk {α β : Type} {x : Option α} {v : α} {F : α → Option β} {r : Option β} (h : x = some v) (k : F v = r) : x.bind F = r := by rw [h]; exact k
def digF : Nat → Nat → Nat → Nat → (Nat → SD) → D4
  | 0, _, _, _, _ => (0, 0, 0, 0)
  | f + 1, lo, hi, m, g => if hi ≤ m ∨ m ≤ lo then ((g lo).f0, (g lo).f1, (g lo).f2, (g lo).f3) else hashPair (digF f lo (lo + spl (hi - lo)) m g) (digF f (lo + spl (hi - lo)) hi m g)
def hlf (n : Nat) : Nat := 2 ^ n.log2
theorem hlf_is {n e : Nat} (h0 : 2 ^ e ≤ n) (h1 : n < 2 ^ (e + 1)) : hlf n = 2 ^ e := by
  unfold hlf
  have : n ≠ 0 := by have : 0 < 2 ^ e := Nat.pow_pos (by omega); omega
  rw [(Nat.log2_eq_iff this).2 ⟨h0, h1⟩]
theorem hlf_le {n : Nat} (h : 1 ≤ n) : 1 ≤ hlf n ∧ hlf n ≤ n := by
  unfold hlf
  exact ⟨Nat.pow_pos (by omega), Nat.log2_self_le (by omega)⟩
def Within (f lo hi m n : Nat) : Prop := (∀ x ∈ (fallF f lo hi m).1, x ∈ gnodes m n) ∧ ∀ x ∈ (fallF f lo hi m).2, x ∈ gnodes m n
theorem within_all (m n : Nat) : Within n 0 n m n := ⟨fun x hx => List.mem_append_left _ hx, fun x hx => List.mem_append_right _ hx⟩
theorem Within.left {f lo hi m n : Nat} (h : Within (f + 1) lo hi m n) (h1 : ¬ hi ≤ m) (h2 : ¬ m ≤ lo) : Within f lo (lo + spl (hi - lo)) m n := by
  unfold Within at h
  simp only [fallF] at h
  rw [if_neg h1, if_neg h2] at h
  exact ⟨fun x hx => h.1 x (List.mem_append_left _ hx), fun x hx => h.2 x (List.mem_append_left _ hx)⟩
theorem Within.right {f lo hi m n : Nat} (h : Within (f + 1) lo hi m n) (h1 : ¬ hi ≤ m) (h2 : ¬ m ≤ lo) : Within f (lo + spl (hi - lo)) hi m n := by
  unfold Within at h
  simp only [fallF] at h
  rw [if_neg h1, if_neg h2] at h
  exact ⟨fun x hx => h.1 x (List.mem_append_right _ hx), fun x hx => h.2 x (List.mem_append_right _ hx)⟩
theorem Within.here {f lo hi m n : Nat} (h : Within (f + 1) lo hi m n) (h1 : hi ≤ m ∨ m ≤ lo) : (⟨(lo : Int), (hi : Int)⟩ : NO) ∈ gnodes m n := by
  unfold Within at h
  simp only [fallF] at h
  by_cases c : hi ≤ m
  · rw [if_pos c] at h
    exact h.1 _ List.mem_cons_self
  · rw [if_neg c, if_pos (by omega)] at h
    exact h.2 _ List.mem_cons_self
theorem rdG_nat {l : List SD} {i : Nat} (h : i < l.length) : rd_T29 l (i : Int) = l[i] := by simp [rd_T29, List.getD, List.getElem?_eq_getElem h]
theorem okN_nat {a b : Nat} (ha : a ≤ 256) (hb : b ≤ 256) : okN (a : Int) (b : Int) := by
  unfold okN
  simp [Lit.wf, IntKind.min, IntKind.max, IntKind.signed, IntKind.bits]
  omega
theorem look_f {M : MapD} {a b : Nat} (ha : a ≤ 256) (hb : b ≤ 256) : impl_lookAt.f M (a : Int) (b : Int) = some (match lookD M (a : Int) (b : Int) with | some d => (d.f0, d.f1, d.f2, d.f3, true) | none => (0, 0, 0, 0, false)) := by
  unfold impl_lookAt.f
  rw [if_pos (okN_nat ha hb)]
  cases lookD M (a : Int) (b : Int) <;> rfl
theorem impl_digestBy (f : Nat) {m n : Nat} (h0 : 0 < n) (h : n ≤ 256) {P : List SD} (hP : P.length = (gnodes m n).length) : ∀ (k lo hi : Nat), hi - lo ≤ f → lo < hi → hi ≤ n → Within f lo hi m n → 31000 + f < k →
    impl_digestBy.f k (putAll (gnodes m n) P []) (lo : Int) (hi : Int) = some (digF f lo hi m (given m n P)) := by
  induction f with
  | zero => intro k lo hi a b; omega
  | succ f ih =>
    intro k lo hi a b c w hk
    obtain ⟨k, rfl⟩ : ∃ q, k = q + 1 := ⟨k - 1, by omega⟩
    simp only [impl_digestBy.f, digF]
    refine bsk (look_f (by omega) (by omega)) ?_
    by_cases c1 : hi ≤ m ∨ m ≤ lo
    · rw [look_given h0 h hP (w.here c1), if_pos c1]
      dsimp only
      rw [if_pos rfl]
    · rw [look_over h0 h P (a := lo) (b := hi) (by omega) (by omega), if_neg c1]
      dsimp only
      have hs := spl_lt (n := hi - lo) (by omega) (by omega)
      rw [if_neg (by simp)]
      refine bsk (halves (by omega) (by omega) (by omega)) ?_
      refine bsk (ih k _ _ (by omega) (by omega) (by omega) (w.left (by omega) (by omega)) (by omega)) (bsk (ih k _ _ (by omega) (by omega) (by omega) (w.right (by omega) (by omega)) (by omega)) ?_)
      exact bsk (impl_pair (by omega) _ _ _ _ _ _ _ _) rfl
theorem rdK_nat {l : List NO} {i : Nat} (h : i < l.length) : rd_T100 l (i : Int) = l[i] := by simp [rd_T100, List.getD, List.getElem?_eq_getElem h]
theorem known_l (n : Nat) : ∀ (k : Nat) (P : List SD) (M : MapD) (xs : List NO) (i : Nat), xs.length = i + n → xs.length ≤ 1000 → xs.length = P.length → (∀ x ∈ xs, okN x.f0 x.f1) → n < k →
    impl_known.l0 k P M xs (xs.length : Int) (i : Int) = some (putAll (xs.drop i) (P.drop i) M) := by
  induction n with
  | zero =>
    intro k P M xs i h h1 hP hx hk
    obtain ⟨k, rfl⟩ : ∃ q, k = q + 1 := ⟨k - 1, by omega⟩
    simp only [impl_known.l0]
    rw [if_neg (by omega), List.drop_of_length_le (by omega)]
    rfl
  | succ n ih =>
    intro k P M xs i h h1 hP hx hk
    obtain ⟨k, rfl⟩ : ∃ q, k = q + 1 := ⟨k - 1, by omega⟩
    have hi : i < xs.length := by omega
    have hj : i < P.length := by omega
    simp only [impl_known.l0]
    rw [if_pos (by omega), if_pos (by omega), if_pos (by omega), if_pos (by omega), rdK_nat hi, rdG_nat hj]
    refine bsk (v := (xs[i], P[i]) :: M) ?_ ?_
    · unfold impl_putAt.f
      rw [if_pos (hx _ (List.getElem_mem hi))]
    · rw [step64 (by omega), ih k P _ xs (i + 1) (by omega) h1 hP hx (by omega), List.drop_eq_getElem_cons hi, List.drop_eq_getElem_cons hj]
      rfl
theorem impl_known {k m n : Nat} (hk : 1000 < k) (h0 : 0 < n) (h : n ≤ 256) {P : List SD} (hP : P.length = (gnodes m n).length) : impl_known.f k (m : Int) (n : Int) P = some (putAll (gnodes m n) P []) := by
  unfold impl_known.f
  have hl := gnodes_len (m := m) h0 h
  have hl2 : (grow m n).1.length + (grow m n).2.length = (gnodes m n).length := by unfold gnodes; rw [List.length_append]
  refine bsk (impl_nodes (by omega) h0 h) (bsk (v := []) rfl ?_)
  rw [if_pos (by omega)]
  simp only [Option.bind_some]
  have := known_l (gnodes m n).length k P [] (gnodes m n) 0 (by omega) (by omega) hP.symm (fun x hx => by
    have hb : (0 : Int) ≤ x.f0 ∧ x.f0 < x.f1 ∧ x.f1 ≤ (n : Int) := by
      rcases List.mem_append.1 hx with hx | hx
      · have := (fall_in n 0 n m (by omega) h h0).1 x hx; omega
      · have := (fall_in n 0 n m (by omega) h h0).2 x hx; omega
    have := okN_nat (a := x.f0.toNat) (b := x.f1.toNat) (by omega) (by omega)
    rw [Int.toNat_of_nonneg hb.1, Int.toNat_of_nonneg (by omega)] at this
    exact this) (by omega)
  rw [List.drop_zero, List.drop_zero] at this
  exact this
end Go.Proofs.Ytflckegggopdnaa.Q
end
section
namespace Go.Proofs.Ytflckegggopdnaa.Q
open Go.RowKit Go.Proofs.Ytflckegggopdnaa.B Go.Proofs.YtflckegggopdnaaW.PrintWords Go.Proofs.YtflckegggopdnaaW.PrintLast Go.Proofs.YtflckegggopdnaaW.PrintMore
end Go.Proofs.Ytflckegggopdnaa.Q
end
section
namespace Go.Proofs.Ytflckegggopdnaa.Q
open Go.RowKit Go.Proofs.Ytflckegggopdnaa.B Go.Proofs.YtflckegggopdnaaW.PrintWords Go.Proofs.YtflckegggopdnaaW.PrintLast Go.Proofs.YtflckegggopdnaaW.PrintMore
set_option linter.unusedVariables false
set_option linter.unusedSimpArgs false
def nd (a b : D4) : Bool := !(a.1 == b.1) || (!(a.2.1 == b.2.1) || (!(a.2.2.1 == b.2.2.1) || (!(a.2.2.2 == b.2.2.2))))
theorem mayGrow (m n : Int) : impl_mayGrow.f m n = some (decide (0 ≤ m ∧ m ≤ n ∧ n ≤ 256)) := by
  unfold impl_mayGrow.f
  refine bsk impl_in ?_
  by_cases h : 0 ≤ n ∧ n ≤ 256
  · rw [if_pos (by simpa using h)]
    refine bsk impl_in ?_
    refine congrArg some (decide_eq_decide.2 ?_)
    omega
  · rw [if_neg (by simpa using h)]
    refine congrArg some (decide_eq_false ?_).symm
    omega
theorem growLen_in {m n : Nat} (h0 : 0 < m) (h1 : m < n) (h : n ≤ 256) : growLen (m : Int) (n : Int) = (((gnodes m n).length : Nat) : Int) := by
  unfold growLen gnodes
  rw [if_pos (by omega), if_neg (by omega), Int.toNat_natCast, Int.toNat_natCast, List.length_append]
end Go.Proofs.Ytflckegggopdnaa.Q
end
section
namespace Go.Proofs.Ytflckegggopdnaa.Q
open Go.RowKit Go.Proofs.Ytflckegggopdnaa.B Go.Proofs.YtflckegggopdnaaW.PrintWords Go.Proofs.YtflckegggopdnaaW.PrintLast Go.Proofs.YtflckegggopdnaaW.PrintMore
def nodeRoot (l : List ByteArray) (x : NO) : SD := toSD (root ((l.take x.f1.toNat).drop x.f0.toNat))
theorem rdN_nat {l : List NO} {i : Nat} (h : i < l.length) : rd_T100 l (i : Int) = l[i] := by simp [rd_T100, List.getD, List.getElem?_eq_getElem h]
theorem fall_fit (f : Nat) : ∀ (lo hi m : Nat), lo ≤ hi → ∀ x ∈ (fallF f lo hi m).1 ++ (fallF f lo hi m).2, hi - lo ≤ f → hi ≤ 256 → ∃ a b : Nat, x = ⟨(a : Int), (b : Int)⟩ ∧ a ≤ b ∧ lo ≤ a ∧ b ≤ hi := by
  induction f with
  | zero => intro lo hi m _ x hx; simp [fallF] at hx
  | succ f ih =>
    intro lo hi m hlo x hx h h1
    simp only [fallF] at hx
    by_cases c1 : hi ≤ m
    · rw [if_pos c1] at hx
      simp at hx
      exact ⟨lo, hi, hx, hlo, by omega, by omega⟩
    · rw [if_neg c1] at hx
      by_cases c2 : m ≤ lo
      · rw [if_pos c2] at hx
        simp at hx
        exact ⟨lo, hi, hx, hlo, by omega, by omega⟩
      · rw [if_neg c2] at hx
        have hs := spl_lt (n := hi - lo) (by omega) (by omega)
        simp only [List.mem_append] at hx
        rcases hx with (hx | hx) | (hx | hx)
        · obtain ⟨a, b, e, h3, h4, h5⟩ := ih lo (lo + spl (hi - lo)) m (by omega) x (List.mem_append_left _ hx) (by omega) (by omega)
          exact ⟨a, b, e, h3, by omega, by omega⟩
        · obtain ⟨a, b, e, h3, h4, h5⟩ := ih (lo + spl (hi - lo)) hi m (by omega) x (List.mem_append_left _ hx) (by omega) (by omega)
          exact ⟨a, b, e, h3, by omega, by omega⟩
        · obtain ⟨a, b, e, h3, h4, h5⟩ := ih lo (lo + spl (hi - lo)) m (by omega) x (List.mem_append_right _ hx) (by omega) (by omega)
          exact ⟨a, b, e, h3, by omega, by omega⟩
        · obtain ⟨a, b, e, h3, h4, h5⟩ := ih (lo + spl (hi - lo)) hi m (by omega) x (List.mem_append_right _ hx) (by omega) (by omega)
          exact ⟨a, b, e, h3, by omega, by omega⟩
theorem implGrow_l (l : List ByteArray) (hl : l.length ≤ 256) (hz : ∀ s ∈ l, s.size ≤ 4611686018427387904) (n : Nat) : ∀ (k : Nat) (xs : List NO) (acc : List SD) (i : Nat), xs.length = i + n → xs.length ≤ 1000 → (∀ x ∈ xs, ∃ a b : Nat, x = ⟨(a : Int), (b : Int)⟩ ∧ a ≤ b ∧ b ≤ l.length) → 40000 + n < k → acc.length + n ≤ 2000 →
    impl_GrowthOf.l0 k l acc xs (xs.length : Int) (i : Int) = some (acc ++ (xs.drop i).map (nodeRoot l), true) := by
  induction n with
  | zero =>
    intro k xs acc i hn hx hf hk ha
    obtain ⟨k, rfl⟩ : ∃ m, k = m + 1 := ⟨k - 1, by omega⟩
    simp only [impl_GrowthOf.l0]
    rw [if_neg (by omega), List.drop_of_length_le (by omega)]
    refine bs (copiedD (by omega)) ?_
    simp
  | succ n ih =>
    intro k xs acc i hn hx hf hk ha
    obtain ⟨k, rfl⟩ : ∃ m, k = m + 1 := ⟨k - 1, by omega⟩
    have hi : i < xs.length := by omega
    obtain ⟨a, b, e, h1, h2⟩ := hf _ (List.getElem_mem hi)
    simp only [impl_GrowthOf.l0]
    rw [if_pos (by omega), if_pos (by omega), if_pos (by omega), rdN_nat hi]
    rw [List.drop_eq_getElem_cons hi, List.map_cons]
    generalize xs[i] = x at e ⊢
    subst e
    show (if 0 ≤ (a : Int) then (if (a : Int) ≤ (b : Int) then (if (b : Int) ≤ (l.length : Int) then _ else _) else _) else _) = _
    rw [if_pos (by omega), if_pos (by omega), if_pos (by omega)]
    refine bs (v := root ((l.take b).drop a)) ?_ ?_
    · show impl_rootOf.f k ((l.take ((b : Int)).toNat).drop ((a : Int)).toNat) = _
      rw [Int.toNat_natCast, Int.toNat_natCast]
      exact impl_root (by omega) (by simp; omega) (fun s hs => hz s (List.mem_of_mem_take (List.mem_of_mem_drop hs)))
    · rw [if_pos (by omega), step64 (by omega), ih k xs _ (i + 1) (by omega) hx hf (by omega) (by simp; omega)]
      refine congrArg some (Prod.ext ?_ rfl)
      rw [List.append_assoc]
      rfl
def growthOf (l : List ByteArray) (m : Int) : List SD × Bool :=
  if leavesOk l = true ∧ 0 ≤ m ∧ m ≤ (l.length : Int) then (if m = 0 ∨ m = (l.length : Int) then ([], true) else (((grow m.toNat l.length).1 ++ (grow m.toNat l.length).2).map (nodeRoot l), true)) else ([], false)
theorem impl_growthOf {k : Nat} (hk : 1099511627776 < k) {l : List ByteArray} (h : l.length < 1099511627776) (m : Int) : impl_GrowthOf.f (k + 2) l m = some (growthOf l m) := by
  unfold impl_GrowthOf.f growthOf
  refine bs (impl_leaves l (by omega) h) ?_
  by_cases c : leavesOk l = true
  · obtain ⟨h2, hz⟩ := leaves_fit c
    rw [if_pos c]
    unfold impl_mayGrow.f
    rw [impl_in, impl_in]
    simp only [Option.bind_some]
    rw [if_pos (by simp; omega)]
    simp only [Option.bind_some]
    by_cases c2 : 0 ≤ m ∧ m ≤ (l.length : Int)
    · rw [if_pos ⟨c, c2⟩]
      simp only [c2, decide_true, Bool.not_true, impl_GrowthOf.j0, Bool.false_eq_true, if_false, and_self]
      obtain ⟨n, rfl⟩ : ∃ n : Nat, m = (n : Int) := ⟨m.toNat, by omega⟩
      by_cases c3 : (n : Int) = 0
      · rw [if_pos c3, if_pos (Or.inl c3)]
        simp [impl_GrowthOf.j1]
      · rw [if_neg c3]
        by_cases c4 : (n : Int) = (l.length : Int)
        · rw [if_pos (Or.inr c4)]
          simp [impl_GrowthOf.j1, c4]
        · rw [if_neg (by omega)]
          simp only [impl_GrowthOf.j1]
          rw [if_neg (by simpa using c4)]
          refine bs (impl_nodes (by omega) (by omega) h2) ?_
          have hlen := fall_len l.length 0 l.length n (by omega) (by omega) (by omega)
          have hlen2 : (grow n l.length).1.length + (grow n l.length).2.length ≤ l.length := by unfold grow; omega
          rw [if_pos (by omega)]
          simp only [Option.bind_some]
          have := implGrow_l l h2 hz ((grow n l.length).1 ++ (grow n l.length).2).length k ((grow n l.length).1 ++ (grow n l.length).2) [] 0 (by omega) (by rw [List.length_append]; omega) (fun x hx => by
            obtain ⟨a, b, e, h3, _, h5⟩ := fall_fit l.length 0 l.length n (by omega) x hx (by omega) h2
            exact ⟨a, b, e, h3, h5⟩) (by rw [List.length_append]; omega) (by rw [List.length_append, List.length_nil]; omega)
          rw [show ((0 : Nat) : Int) = 0 from rfl] at this
          rw [this, Int.toNat_natCast]
          rfl
    · rw [if_neg (by intro hh; exact c2 hh.2)]
      have e1 : decide (0 ≤ m ∧ m ≤ (l.length : Int)) = false := decide_eq_false c2
      rw [e1]
      simp [impl_GrowthOf.j0]
  · rw [if_neg c, if_neg (by intro hh; exact c hh.1)]
    simp [impl_GrowthOf.j0]
theorem leavesOk_take {l : List ByteArray} (c : leavesOk l = true) (n : Nat) : leavesOk (l.take n) = true := by
  simp only [leavesOk, Bool.and_eq_true, decide_eq_true_eq, List.all_eq_true] at c ⊢
  exact ⟨by rw [List.length_take]; omega, fun s hs => c.2 s (List.mem_of_mem_take hs)⟩
theorem impl_growthOf' {k : Nat} (hk : 1099511627780 < k) {l : List ByteArray} (h : l.length < 1099511627776) (m : Int) : impl_GrowthOf.f k l m = some (growthOf l m) := by
  obtain ⟨k, rfl⟩ : ∃ q, k = q + 2 := ⟨k - 2, by omega⟩
  exact impl_growthOf (by omega) h m
theorem growthOf_len {l : List ByteArray} (h : l.length < 1099511627776) (m : Int) : (growthOf l m).1.length ≤ 256 := by
  unfold growthOf
  by_cases c : leavesOk l = true ∧ 0 ≤ m ∧ m ≤ (l.length : Int)
  · rw [if_pos c]
    obtain ⟨h2, hz⟩ := leaves_fit c.1
    by_cases c2 : m = 0 ∨ m = (l.length : Int)
    · rw [if_pos c2]; simp
    · rw [if_neg c2]
      have := fall_len l.length 0 l.length m.toNat (by omega) (by omega) (by omega)
      simp only [List.length_map, List.length_append]
      unfold grow
      omega
  · rw [if_neg c]; simp
end Go.Proofs.Ytflckegggopdnaa.Q
end
section
namespace Go.Proofs.Ytflckegggopdnaa.Q
open Go.RowKit Go.Proofs.Ytflckegggopdnaa.B Go.Proofs.YtflckegggopdnaaW.PrintWords Go.Proofs.YtflckegggopdnaaW.PrintLast Go.Proofs.YtflckegggopdnaaW.PrintMore
set_option linter.unusedVariables false
set_option linter.unusedSimpArgs false
def pkO : Nat → Nat → Nat → Nat → Nat × Nat
  | 0, lo, m, _ => (lo, hlf (m - lo))
  | g + 1, lo, m, i => if lo + hlf (m - lo) ≤ i then pkO g (lo + hlf (m - lo)) m i else (lo, hlf (m - lo))
theorem pkO_is (g : Nat) : ∀ (lo m i : Nat), m - lo ≤ g → lo ≤ i → i < m → m ≤ 256 → ∃ e, (pkO g lo m i).2 = 2 ^ e ∧ e ≤ 8 ∧ lo ≤ (pkO g lo m i).1 ∧ (pkO g lo m i).1 ≤ i ∧ i < (pkO g lo m i).1 + (pkO g lo m i).2 ∧ (pkO g lo m i).1 + (pkO g lo m i).2 ≤ m := by
  induction g with
  | zero => intro lo m i h h0 h1; omega
  | succ g ih =>
    intro lo m i h h0 h1 h2
    have hh := hlf_le (n := m - lo) (by omega)
    simp only [pkO]
    by_cases c : lo + hlf (m - lo) ≤ i
    · rw [if_pos c]
      obtain ⟨e, e1, e2, e3, e4, e5, e6⟩ := ih (lo + hlf (m - lo)) m i (by omega) c h1 h2
      exact ⟨e, e1, e2, by omega, e4, e5, e6⟩
    · rw [if_neg c]
      refine ⟨(m - lo).log2, rfl, ?_, Nat.le_refl _, h0, by show i < lo + hlf (m - lo); omega, by show lo + hlf (m - lo) ≤ m; omega⟩
      rcases Nat.lt_or_ge 8 (m - lo).log2 with c2 | c2
      · have h3 : (2 : Nat) ^ 9 ≤ 2 ^ (m - lo).log2 := Nat.pow_le_pow_right (by omega) (by omega)
        rw [show (2 : Nat) ^ 9 = 512 by rfl] at h3
        have h4 : hlf (m - lo) = 2 ^ (m - lo).log2 := rfl
        omega
      · exact c2
def pkF : Nat → Nat → Nat → Nat → Nat → Nat × Nat
  | 0, lo, hi, _, _ => (lo, hi)
  | f + 1, lo, hi, i, m => if hi ≤ m then (lo, hi) else if i < lo + spl (hi - lo) then pkF f lo (lo + spl (hi - lo)) i m else pkF f (lo + spl (hi - lo)) hi i m
theorem pk_is (f : Nat) : ∀ (lo hi i m g : Nat), hi - lo ≤ f → hi ≤ 256 → lo ≤ i → i < m → m < hi → m - lo ≤ g → pkF f lo hi i m = ((pkO g lo m i).1, (pkO g lo m i).1 + (pkO g lo m i).2) := by
  induction f with
  | zero => intro lo hi i m g h h1 h2 h3 h4; omega
  | succ f ih =>
    intro lo hi i m g h h1 h2 h3 h4 hg
    obtain ⟨g, rfl⟩ : ∃ q, g = q + 1 := ⟨g - 1, by omega⟩
    simp only [pkF]
    rw [if_neg (by omega)]
    obtain ⟨e, he, h5, h6, h7⟩ := spl_is (n := hi - lo) (by omega) (by omega)
    have hs := spl_lt (n := hi - lo) (by omega) (by omega)
    by_cases c : i < lo + spl (hi - lo)
    · rw [if_pos c]
      rcases Nat.lt_or_ge m (lo + spl (hi - lo)) with c2 | c2
      · exact ih _ _ _ _ _ (by omega) (by omega) h2 h3 c2 hg
      · have hh : hlf (m - lo) = spl (hi - lo) := by
          rw [he]
          exact hlf_is (by omega) (by omega)
        obtain ⟨f, rfl⟩ : ∃ q, f = q + 1 := ⟨f - 1, by omega⟩
        simp only [pkF, pkO]
        rw [if_pos c2, hh, if_neg (by omega)]
    · rw [if_neg c]
      have hh : hlf (m - lo) = spl (hi - lo) := by
        rw [he]
        exact hlf_is (by omega) (by omega)
      rw [ih _ _ _ _ g (by omega) h1 (by omega) h3 h4 (by omega)]
      simp only [pkO]
      rw [hh, if_pos (by omega)]
def aboveF : Nat → Nat → Nat → Nat → Nat → (Nat → SD) → List SD
  | 0, _, _, _, _, _ => []
  | f + 1, lo, hi, i, m, g => if hi ≤ m then [] else if i < lo + spl (hi - lo) then aboveF f lo (lo + spl (hi - lo)) i m g ++ [toSD (digF f (lo + spl (hi - lo)) hi m g)] else aboveF f (lo + spl (hi - lo)) hi i m g ++ [toSD (digF f lo (lo + spl (hi - lo)) m g)]
theorem spl_pow (e : Nat) (h : e ≤ 7) : spl (2 ^ (e + 1)) = 2 ^ e := by
  have hp : 0 < 2 ^ e := Nat.pow_pos (by omega)
  have hp2 : 2 ^ e ≤ 2 ^ 7 := Nat.pow_le_pow_right (by omega) h
  obtain ⟨q, h1, h2, h3, _⟩ := spl_is (n := 2 ^ (e + 1)) (by rw [Nat.pow_succ]; omega) (by rw [Nat.pow_succ]; omega)
  have a : q < e + 1 := (Nat.pow_lt_pow_iff_right (by omega)).1 h2
  have b : e + 1 ≤ q + 1 := (Nat.pow_le_pow_iff_right (by omega)).1 h3
  rw [h1, show q = e by omega]
theorem way_pow (e : Nat) : ∀ (f i lo hi : Nat), hi = lo + 2 ^ e → e ≤ 8 → lo ≤ i → i < hi → 2 ^ e ≤ f → (wayF f i lo hi).length = e := by
  induction e with
  | zero =>
    intro f i lo hi h _ h0 h1 hf
    obtain ⟨f, rfl⟩ : ∃ q, f = q + 1 := ⟨f - 1, by omega⟩
    simp only [wayF]
    rw [if_pos (by simp at h; omega)]
    rfl
  | succ e ih =>
    intro f i lo hi h he h0 h1 hf
    have hp : 0 < 2 ^ e := Nat.pow_pos (by omega)
    rw [Nat.pow_succ] at h hf
    obtain ⟨f, rfl⟩ : ∃ q, f = q + 1 := ⟨f - 1, by omega⟩
    have hs : spl (hi - lo) = 2 ^ e := by
      rw [show hi - lo = 2 ^ (e + 1) by rw [Nat.pow_succ]; omega]
      exact spl_pow e (by omega)
    simp only [wayF]
    rw [if_neg (by omega), hs]
    by_cases c : i < lo + 2 ^ e
    · rw [if_pos c, List.length_cons, ih f i lo _ rfl (by omega) h0 c (by omega)]
    · rw [if_neg c, List.length_cons, ih f i _ hi (by omega) (by omega) (by omega) h1 (by omega)]
theorem wayF_fuel (f : Nat) : ∀ (g i lo hi : Nat), hi - lo ≤ f → f ≤ g → hi ≤ 256 → wayF g i lo hi = wayF f i lo hi := by
  induction f with
  | zero =>
    intro g i lo hi h _ _
    cases g with
    | zero => rfl
    | succ g => simp only [wayF]; rw [if_pos (by omega)]
  | succ f ih =>
    intro g i lo hi h hg h2
    obtain ⟨g, rfl⟩ : ∃ q, g = q + 1 := ⟨g - 1, by omega⟩
    simp only [wayF]
    by_cases c : hi - lo ≤ 1
    · rw [if_pos c, if_pos c]
    · have hs := spl_lt (n := hi - lo) (by omega) (by omega)
      rw [if_neg c, if_neg c, ih g i lo (lo + spl (hi - lo)) (by omega) (by omega) (by omega), ih g i (lo + spl (hi - lo)) hi (by omega) (by omega) h2]
theorem way_old (g : Nat) : ∀ (f lo m i : Nat), m - lo ≤ g → m - lo ≤ f → lo ≤ i → i < m → m ≤ 256 → ∃ U, wayF f i lo m = U ++ wayF f i (pkO g lo m i).1 ((pkO g lo m i).1 + (pkO g lo m i).2) := by
  induction g with
  | zero => intro f lo m i h h0 h1 h2; omega
  | succ g ih =>
    intro f lo m i h hf h1 h2 h3
    obtain ⟨f, rfl⟩ : ∃ q, f = q + 1 := ⟨f - 1, by omega⟩
    have hh := hlf_le (n := m - lo) (by omega)
    simp only [pkO]
    by_cases c0 : lo + hlf (m - lo) = m
    · rw [if_neg (by omega)]
      exact ⟨[], by show _ = wayF (f + 1) i lo (lo + hlf (m - lo)); rw [c0]⟩
    · have hs : spl (m - lo) = hlf (m - lo) := by
        obtain ⟨e, e1, e2, e3, _⟩ := spl_is (n := m - lo) (by omega) (by omega)
        rw [e1]
        rcases Nat.lt_or_ge (m - lo) (2 ^ (e + 1)) with c | c
        · exact (hlf_is (by omega) c).symm
        · have e4 : m - lo = 2 ^ (e + 1) := by omega
          have e5 : hlf (m - lo) = 2 ^ (e + 1) := hlf_is (by omega) (by rw [Nat.pow_succ 2 (e + 1)]; omega)
          omega
      have e1 : wayF (f + 1) i lo m = (⟨(lo : Int), (m : Int)⟩ : NO) :: (if i < lo + hlf (m - lo) then wayF f i lo (lo + hlf (m - lo)) else wayF f i (lo + hlf (m - lo)) m) := by
        simp only [wayF]
        rw [if_neg (by omega), hs]
      rw [e1]
      by_cases c : lo + hlf (m - lo) ≤ i
      · rw [if_pos c, if_neg (by omega)]
        obtain ⟨U, hU⟩ := ih f (lo + hlf (m - lo)) m i (by omega) (by omega) c h2 h3
        obtain ⟨e, p1, p2, p3, p4, p5, p6⟩ := pkO_is g (lo + hlf (m - lo)) m i (by omega) c h2 h3
        refine ⟨⟨(lo : Int), (m : Int)⟩ :: U, ?_⟩
        rw [hU, wayF_fuel f (f + 1) i _ _ (by omega) (by omega) (by omega)]
        rfl
      · rw [if_neg c, if_pos (by omega)]
        refine ⟨[⟨(lo : Int), (m : Int)⟩], ?_⟩
        show _ = [_] ++ wayF (f + 1) i lo (lo + hlf (m - lo))
        rw [wayF_fuel f (f + 1) i _ _ (by omega) (by omega) (by omega)]
        rfl
def liftL (m i : Nat) : Nat := (pkO m 0 m i).2.log2
theorem liftL_is {m i : Nat} (h : i < m) (h2 : m ≤ 256) : (pkO m 0 m i).2 = 2 ^ liftL m i ∧ liftL m i ≤ 8 ∧ liftL m i ≤ (way m i).length := by
  obtain ⟨e, p1, p2, p3, p4, p5, p6⟩ := pkO_is m 0 m i (by omega) (by omega) h h2
  have e1 : liftL m i = e := by unfold liftL; rw [p1, Nat.log2_two_pow]
  obtain ⟨U, hU⟩ := way_old m m 0 m i (by omega) (by omega) (by omega) h h2
  refine ⟨by rw [e1]; exact p1, by rw [e1]; exact p2, ?_⟩
  rw [e1]
  unfold way
  rw [hU, List.length_append, way_pow e m i _ _ (by rw [p1]) p2 p4 p5 (by omega)]
  exact Nat.le_add_left _ _
def lift (m n i : Int) (p P : List SD) : List SD × Bool :=
  if 0 ≤ m ∧ m ≤ n ∧ n ≤ 256 ∧ 0 ≤ i ∧ i < m ∧ (p.length : Int) = pathLen m i ∧ (P.length : Int) = growLen m n then
    if m = n then (p, true) else (p.take (liftL m.toNat i.toNat) ++ aboveF n.toNat 0 n.toNat i.toNat m.toNat (given m.toNat n.toNat P), true)
  else ([], false)
theorem pathLen_in {a b : Int} : pathLen a b < 0 ↔ ¬ (1 ≤ a ∧ a ≤ 256 ∧ 0 ≤ b ∧ b < a) := by
  unfold pathLen
  by_cases c : 1 ≤ a ∧ a ≤ 256 ∧ 0 ≤ b ∧ b < a
  · rw [if_pos c]
    constructor
    · intro h; omega
    · intro h; exact absurd c h
  · rw [if_neg c]
    exact ⟨fun _ => c, fun _ => by omega⟩
theorem lift_up (over : List SD) (ho : over.length ≤ 1000) (j : Nat) : ∀ (k : Nat) (out : List SD), j ≤ over.length → out.length + j ≤ 5000 → j < k → impl_GrowthLift.l1 k over out ((j : Int) - 1) = some (out ++ (over.take j).reverse, true) := by
  induction j with
  | zero =>
    intro k out _ hl hk
    obtain ⟨k, rfl⟩ : ∃ q, k = q + 1 := ⟨k - 1, by omega⟩
    simp only [impl_GrowthLift.l1]
    rw [if_neg (by omega)]
    refine bsk (copiedD (by omega)) ?_
    simp
  | succ j ih =>
    intro k out hj hl hk
    obtain ⟨k, rfl⟩ : ∃ q, k = q + 1 := ⟨k - 1, by omega⟩
    have hi : j < over.length := by omega
    simp only [impl_GrowthLift.l1]
    rw [show ((j + 1 : Nat) : Int) - 1 = (j : Int) by omega, if_pos (by omega), if_pos (by omega), if_pos (by omega), if_pos (by omega), rdG_nat hi, show wrap64 ((j : Int) - 1) = (j : Int) - 1 by unfold wrap64; omega]
    rw [ih k _ (by omega) (by simp; omega) (by omega), List.take_succ_eq_append_getElem hi, List.reverse_append, List.append_assoc]
    rfl
theorem lift_down (f : Nat) {m n : Nat} (h0 : 0 < m) (hmn : m < n) (h : n ≤ 256) {P : List SD} (hP : P.length = (gnodes m n).length) {i : Nat} (hi : i < m) {p : List SD} (hp : p.length ≤ 1000) : ∀ (k lo hi j : Nat) (acc : List SD), hi - lo ≤ f → lo ≤ i → i < hi → hi ≤ n → Within f lo hi m n → (way n i).drop j = wayF f i lo hi → j ≤ 1000 → acc.length + f ≤ 1000 → 33000 + f < k →
    (way ((pkF f lo hi i m).2 - (pkF f lo hi i m).1) (i - (pkF f lo hi i m).1)).length ≤ p.length → (pkF f lo hi i m).1 ≤ i →
    impl_GrowthLift.l0 k (i : Int) p (putAll (gnodes m n) P []) (way n i) acc (j : Int) (lo : Int) (hi : Int) = some (p.take (way ((pkF f lo hi i m).2 - (pkF f lo hi i m).1) (i - (pkF f lo hi i m).1)).length ++ (aboveF f lo hi i m (given m n P) ++ acc.reverse), true) := by
  induction f with
  | zero => intro k lo hi j acc a b c; omega
  | succ f ih =>
    intro k lo hi j acc a b c d w hw hj ha hk hL hL2
    obtain ⟨k, rfl⟩ : ∃ q, k = q + 1 := ⟨k - 1, by omega⟩
    simp only [impl_GrowthLift.l0]
    refine bsk (look_f (by omega) (by omega)) ?_
    by_cases c1 : hi ≤ m
    · simp only [pkF] at hL hL2 ⊢
      rw [if_pos c1] at hL hL2 ⊢
      rw [look_given (by omega) h hP (w.here (.inl c1))]
      dsimp only at hL hL2 ⊢
      rw [if_pos rfl, show wrap64 ((hi : Int) - (lo : Int)) = ((hi - lo : Nat) : Int) by unfold wrap64; omega, show wrap64 ((i : Int) - (lo : Int)) = ((i - lo : Nat) : Int) by unfold wrap64; omega]
      refine bsk (impl_way (by omega) (by omega)) ?_
      rw [if_pos (Int.natCast_nonneg _), if_pos (Int.ofNat_le.2 hL), Int.toNat_natCast]
      refine bsk (copiedD (by rw [List.length_take]; omega)) ?_
      rw [show wrap64 ((acc.length : Int) - 1) = (acc.length : Int) - 1 by unfold wrap64; omega]
      rw [lift_up acc (by omega) acc.length k _ (Nat.le_refl _) (by rw [List.length_take]; omega) (by omega), List.take_of_length_le (Nat.le_refl _)]
      simp only [aboveF]
      rw [if_pos c1]
      rfl
    · rw [look_over (by omega) h P (a := lo) (b := hi) (by omega) (by omega)]
      dsimp only
      have hs := spl_lt (n := hi - lo) (by omega) (by omega)
      simp only [wayF] at hw
      rw [if_neg (by omega)] at hw
      have hjl : j < (way n i).length := by
        rcases Nat.lt_or_ge j (way n i).length with q | q
        · exact q
        · rw [List.drop_of_length_le q] at hw
          exact absurd hw (by simp)
      rw [List.drop_eq_getElem_cons hjl] at hw
      obtain ⟨hx, hd⟩ := List.cons.inj hw
      rw [if_neg (by simp), if_pos (by omega), if_pos (by omega), rdK_nat hjl, hx]
      refine bsk (halves (by omega) (by omega) (by omega)) ?_
      dsimp only
      simp only [pkF] at hL hL2 ⊢
      rw [if_neg c1] at hL hL2 ⊢
      simp only [aboveF]
      rw [if_neg c1]
      by_cases c2 : i < lo + spl (hi - lo)
      · rw [if_pos c2] at hd hL hL2 ⊢
        rw [if_pos c2, if_pos (by omega)]
        refine bsk (impl_digestBy f (by omega) h hP k (lo + spl (hi - lo)) hi (by omega) (by omega) d (w.right c1 (by omega)) (by omega)) ?_
        rw [if_pos (by omega), step64 (by omega)]
        rw [ih k _ _ (j + 1) _ (by omega) b c2 (by omega) (w.left c1 (by omega)) hd (by
          have : (way n i).length ≤ n := wayF_len n i 0 n (by omega)
          omega) (by simp; omega) (by omega) hL hL2]
        rw [List.reverse_append, List.append_assoc (aboveF _ _ _ _ _ _)]
        rfl
      · rw [if_neg c2] at hd hL hL2 ⊢
        rw [if_neg c2, if_neg (by omega)]
        refine bsk (impl_digestBy f (by omega) h hP k lo (lo + spl (hi - lo)) (by omega) (by omega) (by omega) (w.left c1 (by omega)) (by omega)) ?_
        rw [if_pos (by omega), step64 (by omega)]
        rw [ih k _ _ (j + 1) _ (by omega) (by omega) c d (w.right c1 (by omega)) hd (by
          have : (way n i).length ≤ n := wayF_len n i 0 n (by omega)
          omega) (by simp; omega) (by omega) hL hL2]
        rw [List.reverse_append, List.append_assoc (aboveF _ _ _ _ _ _)]
        rfl
theorem impl_lift {k : Nat} (hk : 60000 < k) (m n i : Int) (p P : List SD) (hp : p.length < 1099511627776) (hm : P.length < 1099511627776) : impl_GrowthLift.f (k + 1) m n i p P = some (lift m n i p P) := by
  unfold impl_GrowthLift.f lift
  have hno : ∀ q, impl_GrowthLift.j0 (q + 1) m n i p P true = some (([] : List SD), false) := fun q => by
    rw [impl_GrowthLift.j0, if_pos rfl]
  refine bsk (mayGrow m n) ?_
  by_cases c : 0 ≤ m ∧ m ≤ n ∧ n ≤ 256
  · rw [if_pos (by simpa using c)]
    refine bsk (impl_pathLen (by omega) m i) ?_
    by_cases c1 : pathLen m i < 0
    · rw [if_pos c1, hno, if_neg (by rw [pathLen_in] at c1; omega)]
    · rw [if_neg c1]
      rw [pathLen_in] at c1
      refine bsk (impl_pathLen (by omega) m i) ?_
      by_cases c2 : (p.length : Int) = pathLen m i
      · rw [if_pos c2]
        refine bsk (impl_growLen (by omega) m n) ?_
        by_cases c3 : (P.length : Int) = growLen m n
        · rw [if_pos (by omega), impl_GrowthLift.j0, if_neg (by simp [c3])]
          by_cases c4 : m = n
          · rw [if_pos c4, if_pos c4]
            have hpl : p.length ≤ 1000000 := by
              have := wayF_len m.toNat i.toNat 0 m.toNat (by omega)
              have e : pathLen m i = ((way m.toNat i.toNat).length : Int) := by unfold pathLen; rw [if_pos (by omega)]
              have : (way m.toNat i.toNat).length ≤ m.toNat := this
              omega
            exact bsk (copiedD hpl) rfl
          · rw [if_neg c4, if_neg c4]
            obtain ⟨m, rfl⟩ : ∃ q : Nat, m = (q : Int) := ⟨m.toNat, by omega⟩
            obtain ⟨n, rfl⟩ : ∃ q : Nat, n = (q : Int) := ⟨n.toNat, by omega⟩
            obtain ⟨i, rfl⟩ : ∃ q : Nat, i = (q : Int) := ⟨i.toNat, by omega⟩
            have hmn : m < n := by omega
            have him : i < m := by omega
            rw [growLen_in (by omega) hmn (by omega)] at c3
            have hP : P.length = (gnodes m n).length := by omega
            have e : pathLen (m : Int) (i : Int) = ((way m i).length : Int) := by unfold pathLen; rw [if_pos (by omega), Int.toNat_natCast, Int.toNat_natCast]
            have hw : (way m i).length ≤ m := wayF_len m i 0 m (by omega)
            have hpk := pk_is n 0 n i m m (by omega) (by omega) (by omega) him hmn (by omega)
            obtain ⟨l1, l2, l3⟩ := liftL_is him (by omega)
            obtain ⟨q, p1, p2, p3, p4, p5, p6⟩ := pkO_is m 0 m i (by omega) (by omega) him (by omega)
            have hL : (way ((pkF n 0 n i m).2 - (pkF n 0 n i m).1) (i - (pkF n 0 n i m).1)).length = liftL m i := by
              rw [hpk]
              show (way ((pkO m 0 m i).1 + (pkO m 0 m i).2 - (pkO m 0 m i).1) (i - (pkO m 0 m i).1)).length = _
              rw [Nat.add_sub_cancel_left, l1]
              exact way_pow (liftL m i) _ _ 0 _ (by omega) l2 (by omega) (by rw [← l1]; omega) (Nat.le_refl _)
            rw [Int.toNat_natCast, Int.toNat_natCast, Int.toNat_natCast]
            refine bsk (impl_known (by omega) (by omega) (by omega) hP) (bsk (impl_way (by omega) (by omega)) ?_)
            have := lift_down n (by omega) hmn (by omega) hP him (p := p) (by omega) k 0 n 0 [] (by omega) (by omega) (by omega) (Nat.le_refl _) (within_all m n) (List.drop_zero) (by omega) (by simp; omega) (by omega) (by rw [hL]; omega) (by rw [hpk]; exact p4)
            rw [hL] at this
            rw [show ((0 : Nat) : Int) = 0 from rfl] at this
            rw [this]
            simp
        · rw [show ((P.length : Int) != growLen m n) = true by simpa using c3, hno, if_neg (by omega)]
      · rw [if_neg c2, hno, if_neg (by omega)]
  · rw [if_neg (by simpa using c), hno, if_neg (by omega)]
end Go.Proofs.Ytflckegggopdnaa.Q
end
section
namespace Go.Proofs.Ytflckegggopdnaa.Q
open Go.RowKit Go.Proofs.Ytflckegggopdnaa.B Go.Proofs.YtflckegggopdnaaW.PrintWords Go.Proofs.YtflckegggopdnaaW.PrintLast Go.Proofs.YtflckegggopdnaaW.PrintMore
set_option linter.unusedVariables false
set_option linter.unusedSimpArgs false
end Go.Proofs.Ytflckegggopdnaa.Q
end
section
namespace Go.Proofs.Ytflckegggopdnaa.Q
open Go.RowKit Go.Proofs.Ytflckegggopdnaa.B Go.Proofs.YtflckegggopdnaaW.PrintWords Go.Proofs.YtflckegggopdnaaW.PrintLast Go.Proofs.YtflckegggopdnaaW.PrintMore
set_option linter.unusedVariables false
set_option linter.unusedSimpArgs false
theorem rdN_nat' {l : List NO} {i : Nat} (h : i < l.length) : rd_T100 l (i : Int) = l[i] := by simp [rd_T100, List.getD, List.getElem?_eq_getElem h]
def mid (x : NO) : Nat := x.f0.toNat + spl (x.f1.toNat - x.f0.toNat)
def sib (l : List ByteArray) (i : Nat) (x : NO) : SD :=
  if i < mid x then toSD (root ((l.take x.f1.toNat).drop (mid x))) else toSD (root ((l.take (mid x)).drop x.f0.toNat))
theorem way_fit (f : Nat) : ∀ (i lo hi : Nat), hi - lo ≤ f → lo ≤ hi → hi ≤ 256 → ∀ x ∈ wayF f i lo hi, ∃ a b : Nat, x = ⟨(a : Int), (b : Int)⟩ ∧ lo ≤ a ∧ a + 2 ≤ b ∧ b ≤ hi := by
  induction f with
  | zero => intro i lo hi _ _ _ x hx; simp [wayF] at hx
  | succ f ih =>
    intro i lo hi h h0 h1 x hx
    simp only [wayF] at hx
    by_cases c : hi - lo ≤ 1
    · rw [if_pos c] at hx; simp at hx
    · rw [if_neg c] at hx
      have hs := spl_lt (n := hi - lo) (by omega) (by omega)
      rcases List.mem_cons.1 hx with rfl | hx
      · exact ⟨lo, hi, rfl, by omega, by omega, by omega⟩
      · by_cases c2 : i < lo + spl (hi - lo)
        · rw [if_pos c2] at hx
          obtain ⟨a, b, e, h3, h4, h5⟩ := ih _ _ _ (by omega) (by omega) (by omega) x hx
          exact ⟨a, b, e, h3, h4, by omega⟩
        · rw [if_neg c2] at hx
          obtain ⟨a, b, e, h3, h4, h5⟩ := ih _ _ _ (by omega) (by omega) (by omega) x hx
          exact ⟨a, b, e, by omega, h4, h5⟩
theorem mid_is (a b : Nat) : mid ⟨(a : Int), (b : Int)⟩ = a + spl (b - a) := by simp [mid]
theorem implPath_l (l : List ByteArray) (i : Nat) (hl : l.length ≤ 256) (hz : ∀ s ∈ l, s.size ≤ 4611686018427387904) (xs : List NO) (hx : ∀ x ∈ xs, ∃ a b : Nat, x = ⟨(a : Int), (b : Int)⟩ ∧ a + 2 ≤ b ∧ b ≤ l.length) (hn : xs.length ≤ 1000) (j : Nat) : ∀ (k : Nat) (acc : List SD), j ≤ xs.length → 40000 + j < k → acc.length + j ≤ 2000 →
    impl_PathOf.l0 k l (i : Int) xs acc ((j : Int) - 1) = some (acc ++ (xs.take j).reverse.map (sib l i), true) := by
  induction j with
  | zero =>
    intro k acc _ hk ha
    obtain ⟨k, rfl⟩ : ∃ m, k = m + 1 := ⟨k - 1, by omega⟩
    simp only [impl_PathOf.l0]
    rw [if_neg (by omega)]
    refine bs (copiedD (by omega)) ?_
    simp
  | succ j ih =>
    intro k acc hj hk ha
    obtain ⟨k, rfl⟩ : ∃ m, k = m + 1 := ⟨k - 1, by omega⟩
    have hi : j < xs.length := by omega
    obtain ⟨a, b, e, h2, h3⟩ := hx _ (List.getElem_mem hi)
    simp only [impl_PathOf.l0]
    rw [show ((j + 1 : Nat) : Int) - 1 = (j : Int) by omega, if_pos (by omega), if_pos (by omega), if_pos (by omega), rdN_nat' hi]
    rw [List.take_succ_eq_append_getElem hi, List.reverse_append, List.reverse_singleton, List.singleton_append, List.map_cons]
    have hih := fun k acc => ih k acc (by omega)
    generalize xs[j] = x at e ⊢
    subst e
    have hs := spl_lt (n := b - a) (by omega) (by omega)
    refine bs (halves (by omega) h2 (by omega)) ?_
    have em := mid_is a b
    show (if (i : Int) < ((a + spl (b - a) : Nat) : Int) then _ else _) = _
    have hw : wrap64 ((j : Int) - 1) = (j : Int) - 1 := by unfold wrap64; omega
    by_cases c : i < a + spl (b - a)
    · rw [if_pos (by omega)]
      show (if 0 ≤ ((a + spl (b - a) : Nat) : Int) then (if ((a + spl (b - a) : Nat) : Int) ≤ (b : Int) then (if (b : Int) ≤ (l.length : Int) then _ else _) else _) else _) = _
      rw [if_pos (by omega), if_pos (by omega), if_pos (by omega)]
      refine bs (v := root ((l.take b).drop (a + spl (b - a)))) (impl_root (by omega) (by simp; omega) (fun s hs => hz s (List.mem_of_mem_take (List.mem_of_mem_drop hs)))) ?_
      rw [if_pos (by omega), hw, hih k _ (by omega) (by simp; omega)]
      refine congrArg some (Prod.ext ?_ rfl)
      have e2 : sib l i ⟨(a : Int), (b : Int)⟩ = toSD (root ((l.take b).drop (a + spl (b - a)))) := by
        unfold sib
        rw [em, if_pos c]
        rfl
      rw [e2, List.append_assoc]
      rfl
    · rw [if_neg (by omega)]
      show (if 0 ≤ (a : Int) then (if (a : Int) ≤ ((a + spl (b - a) : Nat) : Int) then (if ((a + spl (b - a) : Nat) : Int) ≤ (l.length : Int) then _ else _) else _) else _) = _
      rw [if_pos (by omega), if_pos (by omega), if_pos (by omega)]
      refine bs (v := root ((l.take (a + spl (b - a))).drop a)) (impl_root (by omega) (by simp; omega) (fun s hs => hz s (List.mem_of_mem_take (List.mem_of_mem_drop hs)))) ?_
      rw [if_pos (by omega), hw, hih k _ (by omega) (by simp; omega)]
      refine congrArg some (Prod.ext ?_ rfl)
      have e2 : sib l i ⟨(a : Int), (b : Int)⟩ = toSD (root ((l.take (a + spl (b - a))).drop a)) := by
        unfold sib
        rw [em, if_neg c]
        rfl
      rw [e2, List.append_assoc]
      rfl
theorem slice_take (l : List ByteArray) (a b c : Nat) (h : a + c ≤ b) : ((l.take b).drop a).take c = (l.take (a + c)).drop a := by
  rw [List.take_drop, List.take_take, Nat.min_eq_left (by omega)]
theorem specPath_l (l : List ByteArray) (hl : l.length ≤ 256) (hz : ∀ s ∈ l, s.size ≤ 4611686018427387904) (f : Nat) : ∀ (k i lo hi : Nat), f ≤ 100000 → hi - lo ≤ f → lo ≤ i → i < hi → hi ≤ l.length → 40000 + f < k →
    spec_l3Path.f k ((l.take hi).drop lo) ((i - lo : Nat) : Int) = some ((wayF f i lo hi).reverse.map (sib l i)) := by
  induction f with
  | zero => intro k i lo hi hf h h0 h1; omega
  | succ f ih =>
    intro k i lo hi hf h h0 h1 h2 hk
    obtain ⟨k, rfl⟩ : ∃ m, k = m + 1 := ⟨k - 1, by omega⟩
    have hlen : ((l.take hi).drop lo).length = hi - lo := by rw [List.length_drop, List.length_take]; omega
    simp only [spec_l3Path.f, wayF]
    rw [hlen]
    by_cases c : hi - lo ≤ 1
    · rw [if_pos (by omega), if_pos c]
      rfl
    · rw [if_neg (by omega), if_neg c]
      have hs := spl_lt (n := hi - lo) (by omega) (by omega)
      have em := mid_is lo hi
      refine bs (spec_split (by omega) (by omega) (by omega)) ?_
      rw [List.reverse_cons, List.map_append]
      by_cases c2 : i < lo + spl (hi - lo)
      · rw [if_pos (by omega), if_pos (by omega), if_pos (by omega), if_pos c2, Int.toNat_natCast]
        rw [slice_take l lo hi _ (by omega)]
        refine bs (ih k i lo (lo + spl (hi - lo)) (by omega) (by omega) h0 c2 (by omega) (by omega)) ?_
        refine bs (v := root ((l.take hi).drop (lo + spl (hi - lo)))) ?_ ?_
        · rw [List.drop_drop]
          exact spec_root (by omega) (by simp; omega) (fun s hs => hz s (List.mem_of_mem_take (List.mem_of_mem_drop hs)))
        · have hw := wayF_len f i lo (lo + spl (hi - lo)) (by omega)
          rw [if_pos (by simp; omega)]
          refine congrArg some ?_
          have e2 : sib l i ⟨(lo : Int), (hi : Int)⟩ = toSD (root ((l.take hi).drop (lo + spl (hi - lo)))) := by
            unfold sib
            rw [em, if_pos c2]
            rfl
          rw [List.map_cons, List.map_nil, e2]
          rfl
      · rw [if_neg (by omega), if_pos (by omega), if_pos (by omega), if_neg c2, Int.toNat_natCast]
        rw [List.drop_drop, show wrap64 (((i - lo : Nat) : Int) - ((spl (hi - lo) : Nat) : Int)) = ((i - (lo + spl (hi - lo)) : Nat) : Int) by unfold wrap64; omega]
        refine bs (ih k i (lo + spl (hi - lo)) hi (by omega) (by omega) (by omega) h1 (by omega) (by omega)) ?_
        refine bs (v := root ((l.take (lo + spl (hi - lo))).drop lo)) ?_ ?_
        · rw [slice_take l lo hi _ (by omega)]
          exact spec_root (by omega) (by simp; omega) (fun s hs => hz s (List.mem_of_mem_take (List.mem_of_mem_drop hs)))
        · have hw := wayF_len f i (lo + spl (hi - lo)) hi (by omega)
          rw [if_pos (by simp; omega)]
          refine congrArg some ?_
          have e2 : sib l i ⟨(lo : Int), (hi : Int)⟩ = toSD (root ((l.take (lo + spl (hi - lo))).drop lo)) := by
            unfold sib
            rw [em, if_neg c2]
            rfl
          rw [List.map_cons, List.map_nil, e2]
          rfl
def pathOf (l : List ByteArray) (i : Int) : List SD × Bool :=
  if leavesOk l = true ∧ 0 ≤ i ∧ i < (l.length : Int) then ((way l.length i.toNat).reverse.map (sib l i.toNat), true) else ([], false)
theorem impl_pathOf {k : Nat} (hk : 1099511627776 < k) {l : List ByteArray} (h : l.length < 1099511627776) (i : Int) (hi0 : -9223372036854775808 ≤ i) : impl_PathOf.f (k + 1) l i = some (pathOf l i) := by
  unfold impl_PathOf.f pathOf
  refine bs (impl_leaves l (by omega) h) ?_
  by_cases c : leavesOk l = true
  · obtain ⟨h2, hz⟩ := leaves_fit c
    rw [if_pos c, impl_in]
    simp only [Option.bind_some]
    rw [show wrap64 ((l.length : Int) - 1) = (l.length : Int) - 1 by unfold wrap64; omega]
    by_cases c2 : 0 ≤ i ∧ i < (l.length : Int)
    · rw [if_pos ⟨c, c2⟩, show decide (0 ≤ i ∧ i ≤ (l.length : Int) - 1) = true by simp; omega]
      obtain ⟨n, rfl⟩ : ∃ n : Nat, i = (n : Int) := ⟨i.toNat, by omega⟩
      simp only [Bool.not_true, impl_PathOf.j0, Bool.false_eq_true, if_false]
      refine bs (impl_way (by omega) h2) ?_
      have hw := wayF_len l.length n 0 l.length (by omega)
      have hw2 : (way l.length n).length ≤ l.length := hw
      have := implPath_l l n h2 hz (way l.length n) (fun x hx => by
        obtain ⟨a, b, e, _, h3, h4⟩ := way_fit l.length n 0 l.length (by omega) (by omega) (by omega) x hx
        exact ⟨a, b, e, h3, h4⟩) (by omega) (way l.length n).length k [] (by omega) (by omega) (by simp; omega)
      rw [show wrap64 (((way l.length n).length : Int) - 1) = ((way l.length n).length : Int) - 1 by unfold wrap64; omega, this, List.take_of_length_le (Nat.le_refl _), Int.toNat_natCast]
      rfl
    · rw [if_neg (by intro hh; exact c2 hh.2), show decide (0 ≤ i ∧ i ≤ (l.length : Int) - 1) = false by simp; omega]
      simp [impl_PathOf.j0]
  · rw [if_neg c, if_neg (by intro hh; exact c hh.1)]
    simp [impl_PathOf.j0]
theorem spec_pathOf {k : Nat} (hk : 1099511627776 < k) {l : List ByteArray} (h : l.length < 1099511627776) (i : Int) : spec_PathOf.f k l i = some (pathOf l i) := by
  unfold spec_PathOf.f pathOf
  refine bs (spec_leaves l (by omega) h) ?_
  by_cases c : leavesOk l = true
  · obtain ⟨h2, hz⟩ := leaves_fit c
    rw [if_pos c]
    unfold spec_l3Place.f
    rw [spec_in]
    simp only [Option.bind_some]
    by_cases c0 : 1 ≤ (l.length : Int)
    · rw [if_pos (by simp; omega), spec_in]
      simp only [Option.bind_some]
      rw [show wrap64 ((l.length : Int) - 1) = (l.length : Int) - 1 by unfold wrap64; omega]
      by_cases c2 : 0 ≤ i ∧ i < (l.length : Int)
      · rw [if_pos (by simp; omega), if_pos ⟨c, c2⟩]
        obtain ⟨n, rfl⟩ : ∃ n : Nat, i = (n : Int) := ⟨i.toNat, by omega⟩
        have := specPath_l l h2 hz l.length k n 0 l.length (by omega) (by omega) (by omega) (by omega) (by omega) (by omega)
        rw [List.take_of_length_le (Nat.le_refl _), List.drop_zero] at this
        refine bs this ?_
        rw [Int.toNat_natCast]
        rfl
      · rw [if_neg (by simp; omega), if_neg (by intro hh; exact c2 hh.2)]
    · rw [if_neg (by simp; omega), if_neg (by intro hh; omega)]
      simp
  · rw [if_neg c, if_neg (by intro hh; exact c hh.1)]
theorem impl_pathOf' {k : Nat} (hk : 1099511627780 < k) {l : List ByteArray} (h : l.length < 1099511627776) (i : Int) (hi0 : -9223372036854775808 ≤ i) : impl_PathOf.f k l i = some (pathOf l i) := by
  obtain ⟨k, rfl⟩ : ∃ q, k = q + 1 := ⟨k - 1, by omega⟩
  exact impl_pathOf (by omega) h i hi0
theorem pathOf_len {l : List ByteArray} (i : Int) : (pathOf l i).1.length ≤ 256 := by
  unfold pathOf
  by_cases c : leavesOk l = true ∧ 0 ≤ i ∧ i < (l.length : Int)
  · rw [if_pos c]
    obtain ⟨h2, _⟩ := leaves_fit c.1
    have hw := wayF_len l.length i.toNat 0 l.length (by omega)
    simp only [List.length_map, List.length_reverse]
    exact Nat.le_trans hw h2
  · rw [if_neg c]; simp
end Go.Proofs.Ytflckegggopdnaa.Q
end
section
namespace Go.Proofs.Ytflckegggopdnaa.Q
open Go.RowKit Go.Proofs.Ytflckegggopdnaa.B Go.Proofs.YtflckegggopdnaaW.PrintWords Go.Proofs.YtflckegggopdnaaW.PrintLast Go.Proofs.YtflckegggopdnaaW.PrintMore
set_option linter.unusedVariables false
set_option linter.unusedSimpArgs false
end Go.Proofs.Ytflckegggopdnaa.Q
end
section
namespace Go.Proofs.Ytflckegggopdnaa.Q
open Go.RowKit Go.Proofs.Ytflckegggopdnaa.B Go.Proofs.YtflckegggopdnaaW.PrintWords Go.Proofs.YtflckegggopdnaaW.PrintLast Go.Proofs.YtflckegggopdnaaW.PrintMore
set_option linter.unusedVariables false
set_option linter.unusedSimpArgs false
end Go.Proofs.Ytflckegggopdnaa.Q
end
section
namespace Go.Proofs.Ytflckegggopdnaa.Q
open Go.RowKit Go.Proofs.Ytflckegggopdnaa.B Go.Proofs.YtflckegggopdnaaW.PrintWords Go.Proofs.YtflckegggopdnaaW.PrintLast Go.Proofs.YtflckegggopdnaaW.PrintMore
theorem xor_nat (a b : Nat) (ha : a < 2 ^ 62) (hb : b < 2 ^ 62) : Go.bits .xor .i64 (a : Int) (b : Int) = ((a ^^^ b : Nat) : Int) := by
  have hx : a ^^^ b < 2 ^ 62 := Nat.xor_lt_two_pow ha hb
  have ha' : a % 2 ^ IntKind.i64.bits = a := Nat.mod_eq_of_lt (Nat.lt_of_lt_of_le ha (by decide))
  have hb' : b % 2 ^ IntKind.i64.bits = b := Nat.mod_eq_of_lt (Nat.lt_of_lt_of_le hb (by decide))
  simp only [Go.bits, BitVec.ofInt_natCast, BitVec.toNat_xor, BitVec.toNat_ofNat, ha', hb']
  generalize a ^^^ b = c at *
  rw [IntKind.wrap_i64]
  omega
theorem rd_8 {b : List Int} (h : Bytes8 b) (i : Int) : 0 ≤ rd b i ∧ rd b i ≤ 255 := by
  unfold rd
  by_cases hi : i.toNat < b.length
  · have : b.getD i.toNat 0 = b[i.toNat] := by simp [List.getD, List.getElem?_eq_getElem hi]
    rw [this]
    exact h _ (List.getElem_mem hi)
  · have : b.getD i.toNat 0 = 0 := by simp [List.getD, List.getElem?_eq_none (by omega : b.length ≤ i.toNat)]
    rw [this]
    omega
structure Rdr (b : List Int) (p m : Int) : Prop where
  bytes : Bytes8 b
  len : b.length ≤ 2000
  low : 0 ≤ p
  high : p ≤ m
theorem Rdr.more {b : List Int} {p m q n : Int} (h : Rdr b p m) (h0 : p ≤ q) (h1 : q - p ≤ n - m) : Rdr b q n := ⟨h.bytes, h.len, by have := h.low; omega, by have := h.high; omega⟩
theorem mix_ok {a c q e : Int} (ha : 0 ≤ a ∧ a ≤ 255) (hc : 0 ≤ c ∧ c ≤ 255) (hq : 0 ≤ q ∧ q ≤ 1000000000000) (he : 0 ≤ e ∧ e ≤ q) :
    ∃ v : Nat, Go.bits .xor .i64 (wrap64 ((wrap64 ((wrap64 ((wrap64 ((wrap64 a) * 131)) + (wrap64 ((wrap64 c) * 1117)))) + (wrap64 (q * 29)))) + (wrap64 ((wrap64 e) * 53)))) (wrap64 (Int.tdiv (wrap64 ((wrap64 ((wrap64 ((wrap64 ((wrap64 a) * 131)) + (wrap64 ((wrap64 c) * 1117)))) + (wrap64 (q * 29)))) + (wrap64 ((wrap64 e) * 53)))) 64)) = (v : Int) := by
  have hx : wrap64 ((wrap64 ((wrap64 ((wrap64 ((wrap64 a) * 131)) + (wrap64 ((wrap64 c) * 1117)))) + (wrap64 (q * 29)))) + (wrap64 ((wrap64 e) * 53))) = a * 131 + c * 1117 + q * 29 + e * 53 := by
    rw [w64 (x := a) (by omega) (by omega), w64 (x := c) (by omega) (by omega), w64 (x := e) (by omega) (by omega), w64 (x := a * 131) (by omega) (by omega), w64 (x := c * 1117) (by omega) (by omega),
      w64 (x := q * 29) (by omega) (by omega), w64 (x := e * 53) (by omega) (by omega), w64 (x := a * 131 + c * 1117) (by omega) (by omega), w64 (x := a * 131 + c * 1117 + q * 29) (by omega) (by omega), w64 (by omega) (by omega)]
  rw [hx]
  obtain ⟨x, hx2⟩ : ∃ x : Nat, a * 131 + c * 1117 + q * 29 + e * 53 = (x : Int) := ⟨(a * 131 + c * 1117 + q * 29 + e * 53).toNat, by omega⟩
  have hb : x < 2 ^ 62 := by omega
  rw [hx2, Int.tdiv_eq_ediv_of_nonneg (by omega), w64 (by omega) (by omega), show (x : Int) / 64 = ((x / 64 : Nat) : Int) by omega, xor_nat _ _ hb (by omega)]
  exact ⟨_, rfl⟩
theorem pick_ok {k : Nat} (hk : 1 ≤ k) {b : List Int} {p m : Int} (h : Rdr b p m) (hm : m ≤ 900000000000) (n : Int) : ∃ v, spec_l1Rd_pick.f k b p n = some (v, p + 1) ∧ 0 ≤ v ∧ (1 ≤ n → v < n) ∧ (n < 1 → v = 0) := by
  obtain ⟨k, rfl⟩ : ∃ m, k = m + 1 := ⟨k - 1, by omega⟩
  have h1 := h.low
  have h2 := h.high
  have h3 := h.len
  unfold spec_l1Rd_pick.f
  rw [show wrap64 (p + 1) = p + 1 by unfold wrap64; omega]
  by_cases hn : n < 1
  · rw [if_pos hn]
    simp only [spec_l1Rd_pick.j0, if_true]
    exact ⟨0, rfl, by omega, by omega, fun _ => rfl⟩
  · rw [if_neg hn]
    by_cases h0 : b.length = 0
    · rw [show ((b.length : Int) == 0) = true by simp [h0]]
      simp only [spec_l1Rd_pick.j0, if_true]
      exact ⟨0, rfl, by omega, by omega, fun _ => rfl⟩
    · rw [show ((b.length : Int) == 0) = false by rw [beq_eq_false_iff_ne]; omega]
      simp only [spec_l1Rd_pick.j0, Bool.false_eq_true, if_false]
      rw [show wrap64 (p + 1 - 1) = p by unfold wrap64; omega]
      by_cases hp : p < (b.length : Int)
      · have := rd_8 h.bytes p
        rw [if_pos hp, if_pos h1, if_neg (by omega), w64 (by omega) (by omega)]
        exact ⟨_, rfl, Int.tmod_nonneg _ (by omega), fun _ => Int.tmod_lt_of_pos _ (by omega), by omega⟩
      · have l0 : 0 < (b.length : Int) := by omega
        have t0 := Int.tmod_nonneg (b.length : Int) h1
        have t1 := Int.tmod_lt_of_pos p l0
        have q0 : wrap64 (wrap64 (p * 7) + 3) = p * 7 + 3 := by rw [w64 (x := p * 7) (by omega) (by omega), w64 (by omega) (by omega)]
        have t2 := Int.tmod_nonneg (b.length : Int) (show (0 : Int) ≤ p * 7 + 3 by omega)
        have t3 := Int.tmod_lt_of_pos (p * 7 + 3) l0
        have d0 : 0 ≤ p.tdiv (b.length : Int) := Int.tdiv_nonneg h1 (by omega)
        have d1 : p.tdiv (b.length : Int) ≤ p := by rw [Int.tdiv_eq_ediv_of_nonneg h1]; exact Int.ediv_le_self _ h1
        rw [if_neg hp, if_neg (by omega), if_pos t0, if_pos t1, q0, if_pos t2, if_pos t3, if_neg (by omega), show wrap64 (p.tdiv (b.length : Int)) = wrap64 (p.tdiv (b.length : Int)) from rfl]
        obtain ⟨v, hv⟩ := mix_ok (rd_8 h.bytes (p.tmod (b.length : Int))) (rd_8 h.bytes ((p * 7 + 3).tmod (b.length : Int))) ⟨h1, by omega⟩ ⟨d0, d1⟩
        rw [hv]
        exact ⟨_, rfl, Int.tmod_nonneg _ (by omega), fun _ => Int.tmod_lt_of_pos _ (by omega), by omega⟩
theorem text_l (j : Nat) : ∀ (k : Nat) (acc : List Int) (b : List Int) (p m : Int), j + 1 < k → Rdr b p m → acc.length + j ≤ 1000000 → m + j ≤ 800000000000 → ∃ s q, spec_l1Rd_text.l0 k acc (j : Int) b p = some (s, q) ∧ s.size = acc.length + j ∧ Rdr b q (m + j) ∧ p ≤ q := by
  induction j with
  | zero =>
    intro k acc b p m hk h ha hm
    obtain ⟨k, rfl⟩ : ∃ m, k = m + 1 := ⟨k - 1, by omega⟩
    simp only [spec_l1Rd_text.l0]
    rw [if_neg (by omega)]
    exact ⟨_, _, rfl, by rw [str_size]; omega, h.more (by omega) (by omega), by omega⟩
  | succ j ih =>
    intro k acc b p m hk h ha hm
    obtain ⟨k, rfl⟩ : ∃ m, k = m + 1 := ⟨k - 1, by omega⟩
    simp only [spec_l1Rd_text.l0]
    obtain ⟨v, hv, _⟩ := pick_ok (k := k) (by omega) h (by omega) 256
    rw [if_pos (by omega), hv]
    simp only [Option.bind_some]
    rw [if_pos (by omega), show wrap64 (((j + 1 : Nat) : Int) - 1) = (j : Int) by unfold wrap64; omega]
    obtain ⟨s, q, h1, h2, h3, h4⟩ := ih k (acc ++ [v % 256]) b (p + 1) (m + 1) (by omega) (h.more (by omega) (by omega)) (by simp; omega) (by omega)
    exact ⟨s, q, h1, by rw [h2]; simp; omega, h3.more (by omega) (by omega), by omega⟩
theorem text_ok {k : Nat} {n : Nat} (hn : n ≤ 100000) (hk : n + 2 < k) {b : List Int} {p m : Int} (h : Rdr b p m) (hm : m ≤ 600000000000) : ∃ s q, spec_l1Rd_text.f k b p (n : Int) = some (s, q) ∧ s.size ≤ n ∧ Rdr b q (m + n + 1) ∧ p ≤ q := by
  unfold spec_l1Rd_text.f
  rw [show wrap64 ((n : Int) + 1) = ((n + 1 : Nat) : Int) by unfold wrap64; omega]
  obtain ⟨v, hv, v0, v1, _⟩ := pick_ok (k := k) (by omega) h (by omega) ((n + 1 : Nat) : Int)
  rw [hv]
  simp only [Option.bind_some]
  obtain ⟨j, rfl⟩ : ∃ j : Nat, v = j := ⟨v.toNat, by omega⟩
  have := v1 (by omega)
  obtain ⟨s, q, h1, h2, h3, h4⟩ := text_l j k [] b (p + 1) (m + 1) (by omega) (h.more (by omega) (by omega)) (by simp; omega) (by omega)
  exact ⟨s, q, h1, by rw [h2]; simp; omega, h3.more (by omega) (by omega), by omega⟩
theorem many_l (f : Nat) : ∀ (k n : Nat) (s out : ByteArray), n < 2 ^ f → f < k → f ≤ 20 → s.size * 2 ^ f ≤ 1000000000000 → out.size ≤ 1000000000000000 - 1000000000000 * f → ∃ t, spec_l1Many.l0 k s (n : Int) out = some t ∧ t.size = out.size + s.size * n := by
  induction f with
  | zero =>
    intro k n s out hn hk _ hs ho
    obtain ⟨k, rfl⟩ : ∃ m, k = m + 1 := ⟨k - 1, by omega⟩
    have : n = 0 := by simpa using hn
    subst this
    simp only [spec_l1Many.l0]
    rw [if_neg (by omega)]
    exact ⟨_, rfl, by simp⟩
  | succ f ih =>
    intro k n s out hn hk hf hs ho
    obtain ⟨k, rfl⟩ : ∃ m, k = m + 1 := ⟨k - 1, by omega⟩
    simp only [spec_l1Many.l0]
    have hn20 : n < 2 ^ 20 := Nat.lt_of_lt_of_le hn (Nat.pow_le_pow_right (by omega) hf)
    have e0 : s.size * 2 ^ (f + 1) = (s.size + s.size) * 2 ^ f := by rw [Nat.pow_succ, ← Nat.mul_assoc, Nat.add_mul]; omega
    have e1 : s.size ≤ s.size * 2 ^ (f + 1) := Nat.le_mul_of_pos_right _ (Nat.pow_pos (by omega))
    have e2 : s.size + s.size ≤ s.size * 2 ^ (f + 1) := by rw [e0]; exact Nat.le_mul_of_pos_right _ (Nat.pow_pos (by omega))
    by_cases h0 : n = 0
    · subst h0
      rw [if_neg (by omega)]
      exact ⟨_, rfl, by simp⟩
    · rw [if_pos (by omega), show Int.tmod (n : Int) 2 = ((n % 2 : Nat) : Int) by rw [Int.tmod_eq_emod_of_nonneg (by omega)]; omega, show wrap64 (Int.tdiv (n : Int) 2) = ((n / 2 : Nat) : Int) by rw [Int.tdiv_eq_ediv_of_nonneg (by omega), w64 (by omega) (by omega)]; omega]
      have hh : n / 2 < 2 ^ f := by rw [Nat.pow_succ] at hn; omega
      have hd : (s ++ s).size * 2 ^ f = s.size * 2 ^ (f + 1) := by rw [e0, ByteArray.size_append]
      by_cases h1 : n % 2 = 1
      · rw [if_pos (by omega), if_pos (by omega), if_pos (by omega)]
        obtain ⟨t, h2, h3⟩ := ih k (n / 2) (s ++ s) (out ++ s) hh (by omega) (by omega) (by omega) (by rw [ByteArray.size_append]; omega)
        refine ⟨t, h2, ?_⟩
        rw [h3, ByteArray.size_append, ByteArray.size_append]
        have : s.size * n = (s.size + s.size) * (n / 2) + s.size := by
          conv => lhs; rw [show n = 2 * (n / 2) + 1 by omega]
          rw [Nat.mul_add, ← Nat.mul_assoc, Nat.mul_comm s.size 2, Nat.two_mul, Nat.mul_one]
        omega
      · rw [if_neg (by omega), if_pos (by omega)]
        obtain ⟨t, h2, h3⟩ := ih k (n / 2) (s ++ s) out hh (by omega) (by omega) (by omega) (by omega)
        refine ⟨t, h2, ?_⟩
        rw [h3, ByteArray.size_append]
        have : s.size * n = (s.size + s.size) * (n / 2) := by
          conv => lhs; rw [show n = 2 * (n / 2) by omega]
          rw [← Nat.mul_assoc, Nat.mul_comm s.size 2, Nat.two_mul]
        omega
theorem many_ok {k n : Nat} (hk : 17 ≤ k) (hn : n < 65536) (s : ByteArray) (hs : s.size ≤ 10000000) : ∃ t, spec_l1Many.f k s (n : Int) = some t ∧ t.size = s.size * n := by
  unfold spec_l1Many.f
  obtain ⟨t, h1, h2⟩ := many_l 16 k n s ⟨#[]⟩ hn (by omega) (by omega) (by omega) (by rw [show (⟨#[]⟩ : ByteArray).size = 0 from rfl]; omega)
  exact ⟨t, h1, by rw [h2, show (⟨#[]⟩ : ByteArray).size = 0 from rfl]; omega⟩
theorem open_ok (l : List Int) (h : Bytes8 l) : ∃ b, spec_l1Open.f l = some (b, 0) ∧ Rdr b 0 0 := by
  unfold spec_l1Open.f
  by_cases hl : (l.length : Int) > 2000
  · rw [if_pos hl, if_pos (by omega)]
    exact ⟨_, rfl, h.take 2000, by rw [List.length_take]; omega, by omega, by omega⟩
  · rw [if_neg hl]
    exact ⟨_, rfl, h, by omega, by omega, by omega⟩
end Go.Proofs.Ytflckegggopdnaa.Q
end
section
namespace Go.Proofs.Ytflckegggopdnaa.Q
open Go.RowKit Go.Proofs.Ytflckegggopdnaa.B Go.Proofs.YtflckegggopdnaaW.PrintWords Go.Proofs.YtflckegggopdnaaW.PrintLast Go.Proofs.YtflckegggopdnaaW.PrintMore
set_option linter.unusedVariables false
theorem bsd {α β : Type} {x : Option α} {v : α} {F : α → Option β} {r : Option β} (h : x = some v) (k : F v = r) : x.bind F = r := by rw [h]; exact k
theorem leaf_ok {k : Nat} (hk : 100 ≤ k) {b : List Int} {p m : Int} (h : Rdr b p m) (hm : m ≤ 500000000000) : ∃ s q, spec_l2Rd_leaf.f k b p = some (s, q) ∧ s.size ≤ 100 ∧ Rdr b q (m + 7) ∧ p ≤ q := by
  obtain ⟨v, e, v0, v1, v2⟩ := pick_ok (k := k) (by omega) h (by omega) 10
  have h1 : Rdr b (p + 1) (m + 1) := h.more (by omega) (by omega)
  unfold spec_l2Rd_leaf.f
  by_cases c : v = 0
  · obtain ⟨t, e2, ht⟩ := many_ok (k := k) (n := 40) (by omega) (by omega) (⟨#[109]⟩ : ByteArray) (by decide)
    refine ⟨t, p + 1, ?_, by rw [ht]; decide, h.more (by omega) (by omega), by omega⟩
    refine bsd e ?_
    rw [if_pos c]
    exact bsd e2 rfl
  · obtain ⟨s, q, e2, hs, hr, hq⟩ := text_ok (k := k) (n := 5) (by omega) (by omega) h1 (by omega)
    refine ⟨s, q, ?_, by omega, ?_, by omega⟩
    · refine bsd e ?_
      rw [if_neg c]
      exact bsd e2 rfl
    · have : m + 1 + ((5 : Nat) : Int) + 1 = m + 7 := by omega
      rw [← this]
      exact hr
theorem leaves_l (n : Nat) : ∀ (k i : Nat) (acc : List ByteArray) (b : List Int) (p m : Int), n + 101 ≤ k → Rdr b p m → m + 7 * n ≤ 400000000000 → acc.length + n ≤ 100000 → i + n ≤ 100000 → (∀ s ∈ acc, s.size ≤ 100) →
    ∃ l q, spec_l2Rd_leaves.l0 k ((i + n : Nat) : Int) acc (i : Int) b p = some (l, q) ∧ l.length = acc.length + n ∧ (∀ s ∈ l, s.size ≤ 100) ∧ Rdr b q (m + 7 * n) ∧ p ≤ q := by
  induction n with
  | zero =>
    intro k i acc b p m hk h hm ha hi hs
    obtain ⟨k, rfl⟩ : ∃ m, k = m + 1 := ⟨k - 1, by omega⟩
    simp only [spec_l2Rd_leaves.l0]
    rw [if_neg (by omega)]
    exact ⟨acc, p, rfl, rfl, hs, h.more (by omega) (by omega), by omega⟩
  | succ n ih =>
    intro k i acc b p m hk h hm ha hi hs
    obtain ⟨k, rfl⟩ : ∃ m, k = m + 1 := ⟨k - 1, by omega⟩
    obtain ⟨s, q, e, hsz, hr, hq⟩ := leaf_ok (k := k) (by omega) h (by omega)
    obtain ⟨l, q2, e2, hl, hs2, hr2, hq2⟩ := ih k (i + 1) (acc ++ [s]) b q (m + 7) (by omega) hr (by omega) (by simp; omega) (by omega) (by
      intro x hx
      rcases List.mem_append.1 hx with hx | hx
      · exact hs x hx
      · rw [List.mem_singleton.1 hx]; exact hsz)
    refine ⟨l, q2, ?_, by rw [hl, List.length_append, List.length_singleton]; omega, hs2, ?_, by omega⟩
    · simp only [spec_l2Rd_leaves.l0]
      rw [if_pos (by omega)]
      refine bsd e ?_
      rw [if_pos (by omega), step64 (by omega), show i + (n + 1) = i + 1 + n by omega]
      exact e2
    · have : m + 7 + 7 * (n : Int) = m + 7 * ((n + 1 : Nat) : Int) := by omega
      rw [← this]
      exact hr2
theorem leaves_ok {k n : Nat} (hk : n + 101 ≤ k) {b : List Int} {p m : Int} (h : Rdr b p m) (hm : m + 7 * n ≤ 400000000000) (hn : n ≤ 1000) :
    ∃ l q, spec_l2Rd_leaves.f k b p (n : Int) = some (l, q) ∧ l.length = n ∧ (∀ s ∈ l, s.size ≤ 100) ∧ Rdr b q (m + 7 * n) ∧ p ≤ q := by
  obtain ⟨l, q, e, hl, hs, hr, hq⟩ := leaves_l n k 0 [] b p m hk h hm (by simp; omega) (by omega) (by simp)
  rw [Nat.zero_add] at e
  exact ⟨l, q, e, by simpa using hl, hs, hr, hq⟩
theorem size_ok {k : Nat} (hk : 1 ≤ k) {b : List Int} {p m : Int} (h : Rdr b p m) (hm : m ≤ 500000000000) : ∃ (v : Nat) (q : Int), spec_l2Rd_size.f k b p = some ((v : Int), q) ∧ v ≤ 70 ∧ Rdr b q (m + 2) ∧ p ≤ q := by
  obtain ⟨v, e, v0, v1, v2⟩ := pick_ok (k := k) (by omega) h (by omega) 9
  have h1 : Rdr b (p + 1) (m + 1) := h.more (by omega) (by omega)
  unfold spec_l2Rd_size.f
  by_cases c : v = 0
  · obtain ⟨u, e2, u0, u1, u2⟩ := pick_ok (k := k) (by omega) h1 (by omega) 70
    refine ⟨u.toNat, p + 1 + 1, ?_, by omega, h.more (by omega) (by omega), by omega⟩
    refine bsd e ?_
    rw [if_pos c]
    refine bsd e2 ?_
    rw [Int.toNat_of_nonneg u0]
  · obtain ⟨u, e2, u0, u1, u2⟩ := pick_ok (k := k) (by omega) h1 (by omega) 20
    refine ⟨u.toNat, p + 1 + 1, ?_, by omega, h.more (by omega) (by omega), by omega⟩
    refine bsd e ?_
    rw [if_neg c]
    refine bsd e2 ?_
    rw [Int.toNat_of_nonneg u0]
theorem full_l (n : Nat) : ∀ (k i : Nat) (acc : List ByteArray), n + 1 ≤ k → acc.length + n ≤ 100000 → i + n ≤ 100000 → (∀ s ∈ acc, s.size ≤ 100) →
    ∃ l, spec_l2Full.l0 k ((i + n : Nat) : Int) acc (i : Int) = some l ∧ l.length = acc.length + n ∧ ∀ s ∈ l, s.size ≤ 100 := by
  induction n with
  | zero =>
    intro k i acc hk ha hi hs
    obtain ⟨k, rfl⟩ : ∃ m, k = m + 1 := ⟨k - 1, by omega⟩
    simp only [spec_l2Full.l0]
    rw [if_neg (by omega)]
    exact ⟨acc, rfl, rfl, hs⟩
  | succ n ih =>
    intro k i acc hk ha hi hs
    obtain ⟨k, rfl⟩ : ∃ m, k = m + 1 := ⟨k - 1, by omega⟩
    obtain ⟨l, e, hl, hs2⟩ := ih k (i + 1) (acc ++ [⟨#[]⟩]) (by omega) (by simp; omega) (by omega) (by
      intro x hx
      rcases List.mem_append.1 hx with hx | hx
      · exact hs x hx
      · rw [List.mem_singleton.1 hx]; decide)
    refine ⟨l, ?_, by rw [hl, List.length_append, List.length_singleton]; omega, hs2⟩
    simp only [spec_l2Full.l0]
    rw [if_pos (by omega), if_pos (by omega), step64 (by omega), show i + (n + 1) = i + 1 + n by omega]
    exact e
theorem full_ok {k n : Nat} (hk : n + 1 ≤ k) (hn : n ≤ 1000) : ∃ l, spec_l2Full.f k (n : Int) = some l ∧ l.length = n ∧ ∀ s ∈ l, s.size ≤ 100 := by
  obtain ⟨l, e, hl, hs⟩ := full_l n k 0 [] hk (by simp; omega) (by omega) (by simp)
  rw [Nat.zero_add] at e
  exact ⟨l, e, by simpa using hl, hs⟩
theorem some_ok {k : Nat} (hk : 1000 ≤ k) {b : List Int} {p m : Int} (h : Rdr b p m) (hm : m ≤ 300000000000) :
    ∃ l q, spec_l2Rd_some.f k b p = some (l, q) ∧ l.length ≤ 300 ∧ (∀ s ∈ l, s.size ≤ 100) ∧ Rdr b q (m + 1000) ∧ p ≤ q := by
  obtain ⟨v, e, v0, v1, v2⟩ := pick_ok (k := k) (by omega) h (by omega) 24
  have h1 : Rdr b (p + 1) (m + 1) := h.more (by omega) (by omega)
  unfold spec_l2Rd_some.f
  by_cases c : v = 0
  · obtain ⟨u, e2, u0, u1, u2⟩ := pick_ok (k := k) (by omega) h1 (by omega) 2
    obtain ⟨l, e3, hl, hs⟩ := full_ok (k := k) (n := 256 + u.toNat) (by omega) (by omega)
    refine ⟨l, p + 1 + 1, ?_, by omega, hs, h.more (by omega) (by omega), by omega⟩
    refine bsd e ?_
    rw [if_pos c]
    refine bsd e2 ?_
    rw [show wrap64 (256 + u) = ((256 + u.toNat : Nat) : Int) by unfold wrap64; omega]
    exact bsd e3 rfl
  · obtain ⟨n, q, e2, hn, hr, hq⟩ := size_ok (k := k) (by omega) h1 (by omega)
    obtain ⟨l, q2, e3, hl, hs, hr2, hq2⟩ := leaves_ok (k := k) (n := n) (by omega) hr (by omega) (by omega)
    by_cases c1 : v = 1
    · obtain ⟨t, e4, ht⟩ := many_ok (k := k) (n := 41) (by omega) (by omega) (⟨#[108]⟩ : ByteArray) (by decide)
      refine ⟨l ++ [t], q2, ?_, by simp; omega, ?_, hr2.more (by have := hr2.low; omega) (by omega), by omega⟩
      · refine bsd e ?_
        rw [if_neg c]
        refine bsd e2 (bsd e3 ?_)
        rw [if_pos c1]
        refine bsd e4 ?_
        dsimp only
        rw [if_pos (by omega)]
      · intro x hx
        rcases List.mem_append.1 hx with hx | hx
        · exact hs x hx
        · rw [List.mem_singleton.1 hx, ht]; decide
    · refine ⟨l, q2, ?_, by omega, hs, hr2.more (by have := hr2.low; omega) (by omega), by omega⟩
      refine bsd e ?_
      rw [if_neg c]
      refine bsd e2 (bsd e3 ?_)
      rw [if_neg c1]
end Go.Proofs.Ytflckegggopdnaa.Q
end
section
namespace Go.Proofs.Ytflckegggopdnaa.Q
open Go.RowKit Go.Proofs.Ytflckegggopdnaa.B Go.Proofs.YtflckegggopdnaaW.PrintWords Go.Proofs.YtflckegggopdnaaW.PrintLast Go.Proofs.YtflckegggopdnaaW.PrintMore
set_option linter.unusedVariables false
set_option linter.unusedSimpArgs false
def growP (l : List ByteArray) (m : Nat) : List SD := (gnodes m l.length).map (nodeRoot l)
theorem growP_len (l : List ByteArray) (m : Nat) : (growP l m).length = (gnodes m l.length).length := by unfold growP; rw [List.length_map]
theorem growthOf_in {l : List ByteArray} (c : leavesOk l = true) {m : Nat} (h0 : 0 < m) (h1 : m < l.length) : growthOf l (m : Int) = (growP l m, true) := by
  unfold growthOf growP gnodes
  rw [if_pos ⟨c, by omega, by omega⟩, if_neg (by omega), Int.toNat_natCast]
theorem given_root {l : List ByteArray} {m : Nat} (h0 : 0 < l.length) (h : l.length ≤ 256) {a b : Nat} (hx : (⟨(a : Int), (b : Int)⟩ : NO) ∈ gnodes m l.length) : given m l.length (growP l m) a = toSD (root ((l.take b).drop a)) := by
  obtain ⟨hj2, e2⟩ := ahead_lt (gnodes_sorted h0 h) hx
  have hj3 : ahead (gnodes m l.length) (a : Int) < (gnodes m l.length).length := hj2
  have e3 : (gnodes m l.length)[ahead (gnodes m l.length) (a : Int)] = (⟨(a : Int), (b : Int)⟩ : NO) := e2
  unfold given growP
  rw [List.getD, List.getElem?_map, List.getElem?_eq_getElem hj3, e3]
  rfl
theorem dig_root {l : List ByteArray} (h : l.length ≤ 256) (m : Nat) (f : Nat) : ∀ (lo hi : Nat), hi - lo ≤ f → lo < hi → hi ≤ l.length → Within f lo hi m l.length → digF f lo hi m (given m l.length (growP l m)) = root ((l.take hi).drop lo) := by
  induction f with
  | zero => intro lo hi a b; omega
  | succ f ih =>
    intro lo hi a b c w
    have hlen : ((l.take hi).drop lo).length = hi - lo := by rw [List.length_drop, List.length_take]; omega
    simp only [digF]
    by_cases c1 : hi ≤ m ∨ m ≤ lo
    · rw [if_pos c1, given_root (by omega) h (w.here c1)]
      rfl
    · have hs := spl_lt (n := hi - lo) (by omega) (by omega)
      have hr := root_split (l := (l.take hi).drop lo) (by omega) (by omega)
      rw [hlen, slice_take l lo hi _ (by omega), List.drop_drop] at hr
      rw [if_neg c1, ih lo (lo + spl (hi - lo)) (by omega) (by omega) (by omega) (w.left (by omega) (by omega)), ih (lo + spl (hi - lo)) hi (by omega) (by omega) c (w.right (by omega) (by omega)), hr]
theorem pkF_in (f : Nat) : ∀ (lo hi i m : Nat), hi - lo ≤ f → hi ≤ 256 → lo ≤ i → i < hi → i < m → lo ≤ (pkF f lo hi i m).1 ∧ (pkF f lo hi i m).2 ≤ hi := by
  induction f with
  | zero => intro lo hi i m a b c d; omega
  | succ f ih =>
    intro lo hi i m a b c d e
    simp only [pkF]
    by_cases c1 : hi ≤ m
    · rw [if_pos c1]; exact ⟨Nat.le_refl _, Nat.le_refl _⟩
    · rw [if_neg c1]
      have hs := spl_lt (n := hi - lo) (by omega) (by omega)
      by_cases c2 : i < lo + spl (hi - lo)
      · rw [if_pos c2]
        have := ih lo (lo + spl (hi - lo)) i m (by omega) (by omega) c c2 e
        omega
      · rw [if_neg c2]
        have := ih (lo + spl (hi - lo)) hi i m (by omega) b (by omega) d e
        omega
theorem above_way {l : List ByteArray} (h : l.length ≤ 256) {m i : Nat} (hi' : i < m) (f : Nat) : ∀ (lo hi : Nat), hi - lo ≤ f → lo ≤ i → i < hi → hi ≤ l.length → Within f lo hi m l.length →
    ∃ U, wayF f i lo hi = U ++ wayF f i (pkF f lo hi i m).1 (pkF f lo hi i m).2 ∧ aboveF f lo hi i m (given m l.length (growP l m)) = U.reverse.map (sib l i) := by
  induction f with
  | zero => intro lo hi a b c; omega
  | succ f ih =>
    intro lo hi a b c d w
    simp only [pkF, aboveF]
    by_cases c1 : hi ≤ m
    · rw [if_pos c1, if_pos c1]
      exact ⟨[], rfl, rfl⟩
    · have hs := spl_lt (n := hi - lo) (by omega) (by omega)
      have em := mid_is lo hi
      have ew : wayF (f + 1) i lo hi = (⟨(lo : Int), (hi : Int)⟩ : NO) :: (if i < lo + spl (hi - lo) then wayF f i lo (lo + spl (hi - lo)) else wayF f i (lo + spl (hi - lo)) hi) := by
        simp only [wayF]
        rw [if_neg (by omega)]
      rw [if_neg c1, if_neg c1, ew]
      by_cases c2 : i < lo + spl (hi - lo)
      · rw [if_pos c2, if_pos c2, if_pos c2]
        obtain ⟨U, e1, e2⟩ := ih lo (lo + spl (hi - lo)) (by omega) b c2 (by omega) (w.left c1 (by omega))
        have hp := pkF_in f lo (lo + spl (hi - lo)) i m (by omega) (by omega) b c2 hi'
        refine ⟨⟨(lo : Int), (hi : Int)⟩ :: U, ?_, ?_⟩
        · rw [wayF_fuel f (f + 1) i (pkF f lo (lo + spl (hi - lo)) i m).1 (pkF f lo (lo + spl (hi - lo)) i m).2 (by omega) (by omega) (by omega)]
          rw [e1, List.cons_append]
        · rw [e2, List.reverse_cons, List.map_append, dig_root h m f (lo + spl (hi - lo)) hi (by omega) (by omega) d (w.right c1 (by omega))]
          refine congrArg (_ ++ ·) ?_
          have e3 : sib l i ⟨(lo : Int), (hi : Int)⟩ = toSD (root ((l.take hi).drop (lo + spl (hi - lo)))) := by
            unfold sib
            rw [em, if_pos c2]
            rfl
          rw [List.map_cons, List.map_nil, e3]
      · rw [if_neg c2, if_neg c2, if_neg c2]
        obtain ⟨U, e1, e2⟩ := ih (lo + spl (hi - lo)) hi (by omega) (by omega) c d (w.right c1 (by omega))
        have hp := pkF_in f (lo + spl (hi - lo)) hi i m (by omega) (by omega) (by omega) c hi'
        refine ⟨⟨(lo : Int), (hi : Int)⟩ :: U, ?_, ?_⟩
        · rw [wayF_fuel f (f + 1) i (pkF f (lo + spl (hi - lo)) hi i m).1 (pkF f (lo + spl (hi - lo)) hi i m).2 (by omega) (by omega) (by omega)]
          rw [e1, List.cons_append]
        · rw [e2, List.reverse_cons, List.map_append, dig_root h m f lo (lo + spl (hi - lo)) (by omega) (by omega) (by omega) (w.left c1 (by omega))]
          refine congrArg (_ ++ ·) ?_
          have e3 : sib l i ⟨(lo : Int), (hi : Int)⟩ = toSD (root ((l.take (lo + spl (hi - lo))).drop lo)) := by
            unfold sib
            rw [em, if_neg c2]
            rfl
          rw [List.map_cons, List.map_nil, e3]
theorem lift_proves {l : List ByteArray} (c : leavesOk l = true) {m i : Nat} (hi : i < m) (hm : m ≤ l.length) : lift (m : Int) (l.length : Int) (i : Int) (pathOf (l.take m) (i : Int)).1 (growthOf l (m : Int)).1 = ((pathOf l (i : Int)).1, true) := by
  obtain ⟨h, _⟩ := leaves_fit c
  have hlt : (l.take m).length = m := by rw [List.length_take]; omega
  have e1 : pathOf (l.take m) (i : Int) = ((way m i).reverse.map (sib (l.take m) i), true) := by
    unfold pathOf
    rw [if_pos ⟨leavesOk_take c m, by omega, by rw [hlt]; omega⟩, hlt, Int.toNat_natCast]
  have e2 : pathOf l (i : Int) = ((way l.length i).reverse.map (sib l i), true) := by
    unfold pathOf
    rw [if_pos ⟨c, by omega, by omega⟩, Int.toNat_natCast]
  have e3 : pathLen (m : Int) (i : Int) = ((way m i).length : Int) := by unfold pathLen; rw [if_pos (by omega), Int.toNat_natCast, Int.toNat_natCast]
  rw [e1, e2]
  unfold lift
  by_cases c1 : m = l.length
  · have e4 : growthOf l (m : Int) = ([], true) := by
      unfold growthOf
      rw [if_pos ⟨c, by omega, by omega⟩, if_pos (by omega)]
    have e5 : growLen (m : Int) (l.length : Int) = 0 := by
      unfold growLen
      rw [if_pos (by omega), if_pos (by omega)]
    rw [e4, e3, e5]
    rw [if_pos ⟨by omega, by omega, by omega, by omega, by omega, by simp, rfl⟩, if_pos (by omega)]
    subst c1
    rw [List.take_of_length_le (Nat.le_refl _)]
  · have hml : m < l.length := by omega
    rw [growthOf_in c (by omega) hml, growLen_in (by omega) hml h, e3]
    dsimp only
    rw [growP_len, if_pos ⟨by omega, by omega, by omega, by omega, by omega, by simp, rfl⟩, if_neg (by omega), Int.toNat_natCast, Int.toNat_natCast, Int.toNat_natCast]
    refine Prod.ext ?_ rfl
    dsimp only
    obtain ⟨l1, l2, l3⟩ := liftL_is hi (by omega)
    obtain ⟨q, p1, p2, p3, p4, p5, p6⟩ := pkO_is m 0 m i (by omega) (by omega) hi (by omega)
    have hpk := pk_is l.length 0 l.length i m m (by omega) h (by omega) hi hml (by omega)
    obtain ⟨U, u1, u2⟩ := above_way h hi l.length 0 l.length (by omega) (by omega) (by omega) (Nat.le_refl _) (within_all m l.length)
    obtain ⟨V, v1⟩ := way_old m m 0 m i (by omega) (by omega) (by omega) hi (by omega)
    rw [hpk] at u1
    dsimp only at u1
    have hw : (wayF m i (pkO m 0 m i).1 ((pkO m 0 m i).1 + (pkO m 0 m i).2)).length = liftL m i := way_pow (liftL m i) _ _ _ _ (by rw [l1]) l2 p4 p5 (by rw [← l1]; omega)
    rw [wayF_fuel m l.length i (pkO m 0 m i).1 ((pkO m 0 m i).1 + (pkO m 0 m i).2) (by omega) (by omega) (by omega)] at u1
    rw [u2]
    unfold way
    rw [v1, u1, List.reverse_append, List.reverse_append, List.map_append, List.map_append, List.take_append_of_le_length (by rw [List.length_map, List.length_reverse, hw]; exact Nat.le_refl _), List.take_of_length_le (by rw [List.length_map, List.length_reverse, hw]; exact Nat.le_refl _)]
    refine congrArg (· ++ _) ?_
    refine List.map_congr_left (fun x hx => ?_)
    obtain ⟨a, b, ex, x1, x2, x3⟩ := way_fit m i (pkO m 0 m i).1 ((pkO m 0 m i).1 + (pkO m 0 m i).2) (by omega) (by omega) (by omega) x (List.mem_reverse.1 hx)
    subst ex
    have hs := spl_lt (n := b - a) (by omega) (by omega)
    have em := mid_is a b
    unfold sib
    rw [em]
    show (if i < a + spl (b - a) then toSD (root (((l.take m).take b).drop (a + spl (b - a)))) else toSD (root (((l.take m).take (a + spl (b - a))).drop a))) = (if i < a + spl (b - a) then toSD (root ((l.take b).drop (a + spl (b - a)))) else toSD (root ((l.take (a + spl (b - a))).drop a)))
    rw [List.take_take, List.take_take, Nat.min_eq_left (by omega), Nat.min_eq_left (by omega)]
theorem drawGrowth {k : Nat} (hk : 1000 ≤ k) (c : List Int) (hc : Bytes8 c) : ∃ (l : List ByteArray) (m : Int), spec_DrawGrowthOf.f k c = some (l, m) ∧ l.length ≤ 300 ∧ -1 ≤ m ∧ m ≤ (l.length : Int) + 1 := by
  obtain ⟨b, e1, hr⟩ := open_ok c hc
  obtain ⟨l, q, e2, hl, hs, hr2, _⟩ := some_ok (k := k) hk hr (by omega)
  obtain ⟨v, e4, v0, v1, v2⟩ := pick_ok (k := k) (by omega) hr2 (by omega) ((l.length : Int) + 3)
  have v3 := v1 (by omega)
  refine ⟨l, v - 1, ?_, hl, by omega, by omega⟩
  unfold spec_DrawGrowthOf.f spec_l3Open.f spec_l2Open.f
  refine bsk e1 (bsk e2 ?_)
  rw [show wrap64 ((l.length : Int) + 3) = (l.length : Int) + 3 by unfold wrap64; omega]
  refine bsk e4 ?_
  rw [show wrap64 (v - 1) = v - 1 by unfold wrap64; omega]
end Go.Proofs.Ytflckegggopdnaa.Q
end
section
namespace Go.Proofs.Ytflckegggopdnaa.Pure
open Go.RowKit Go.Proofs.Ytflckegggopdnaa.B Go.Proofs.Ytflckegggopdnaa.Q Go.Proofs.YtflckegggopdnaaW.PrintWords Go.Proofs.YtflckegggopdnaaW.PrintLast
set_option linter.unusedVariables false
set_option linter.unusedSimpArgs false
theorem same_l (n : Nat) : ∀ (k : Nat) (l : List SD) (i : Nat), l.length = i + n → n < k → l.length < 1099511627776 → laws_sameDigests.l0 k l l (i : Int) = some true := by
  induction n with
  | zero =>
    intro k l i hl hk hm
    obtain ⟨k, rfl⟩ : ∃ m, k = m + 1 := ⟨k - 1, by omega⟩
    simp only [laws_sameDigests.l0]
    rw [if_neg (by omega)]
  | succ n ih =>
    intro k l i hl hk hm
    obtain ⟨k, rfl⟩ : ∃ m, k = m + 1 := ⟨k - 1, by omega⟩
    simp only [laws_sameDigests.l0]
    rw [if_pos (by omega), if_pos (by omega), if_pos (by omega), if_neg (by simp), step64 (by omega)]
    exact ih k l (i + 1) (by omega) (by omega) hm
theorem same_ok {k : Nat} (l : List SD) (hk : l.length < k) (hm : l.length < 1099511627776) : laws_sameDigests.f k l l = some true := by
  unfold laws_sameDigests.f
  rw [if_pos rfl]
  exact same_l l.length k l 0 (by omega) hk hm
theorem at_ok (c : List Int) (hc : Bytes8 c) (h : c.length ≤ 1048576) : ∃ v, laws_at.f c 5 = some v ∧ 0 ≤ v ∧ v ≤ 255 := by
  unfold laws_at.f
  by_cases h0 : (c.length : Int) = 0
  · rw [if_pos h0]
    exact ⟨_, rfl, by unfold wrap64; omega, by unfold wrap64; omega⟩
  · rw [if_neg h0]
    by_cases h1 : (5 : Int) < (c.length : Int)
    · rw [if_pos h1, if_pos (by omega)]
      have := rd_8 hc 5
      exact ⟨_, rfl, this.1, this.2⟩
    · rw [if_neg h1]
      have e1 : Int.tmod 5 (c.length : Int) = 5 % (c.length : Int) := Int.tmod_eq_emod_of_nonneg (by omega)
      have ew : wrap64 ((wrap64 (5 * 5)) + 1) = 26 := by unfold wrap64; omega
      have e2 : Int.tmod (wrap64 ((wrap64 (5 * 5)) + 1)) (c.length : Int) = 26 % (c.length : Int) := by rw [ew]; exact Int.tmod_eq_emod_of_nonneg (by omega)
      rw [e1, e2, if_pos (Int.emod_nonneg _ (by omega)), if_pos (Int.emod_lt_of_pos _ (by omega)), if_pos (Int.emod_nonneg _ (by omega)), if_pos (Int.emod_lt_of_pos _ (by omega))]
      exact ⟨_, rfl, Int.emod_nonneg _ (by omega), by have := Int.emod_lt_of_pos ((((((rd c (5 % (c.length : Int))) * 31) % 256) + (rd c (26 % (c.length : Int)))) % 256) + ((5 : Int) % 256)) (show (0 : Int) < 256 by omega); omega⟩
theorem lifted_at (k : Nat) (hk : 1099511627790 < k) (c : List Int) (hc : Bytes8 c) : laws_FnLifted.f (k + 2) c = some true := by
  unfold laws_FnLifted.f
  by_cases h0 : (c.length : Int) > 1048576
  · rw [if_pos h0]
  · rw [if_neg h0]
    obtain ⟨l, m, e1, hl, m0, m1⟩ := drawGrowth (k := k + 2) (by omega) c hc
    refine bsk e1 (bsk (spec_leaves l (by omega) (by omega)) ?_)
    dsimp only
    have hbad : laws_FnLifted.j0 (k + 2) c l m true = some true := by
      rw [laws_FnLifted.j0, if_pos rfl]
    by_cases cl : leavesOk l = true
    · rw [if_pos cl]
      obtain ⟨h2, hz⟩ := leaves_fit cl
      by_cases c1 : m < 1
      · rw [if_pos c1, hbad]
      · rw [if_neg c1]
        by_cases c2 : m > (l.length : Int)
        · rw [decide_eq_true c2, hbad]
        · rw [decide_eq_false c2]
          obtain ⟨m, rfl⟩ : ∃ n : Nat, m = (n : Int) := ⟨m.toNat, by omega⟩
          have hm : m ≤ l.length := by omega
          obtain ⟨v, ev, v0, v1⟩ := at_ok c hc (by omega)
          rw [laws_FnLifted.j0, if_neg (by simp)]
          refine bsk ev ?_
          rw [if_neg (by omega), if_pos (by omega), if_pos (by omega), Int.toNat_natCast]
          obtain ⟨i, hi⟩ : ∃ i : Nat, Int.tmod (wrap64 v) (m : Int) = (i : Int) ∧ i < m := by
            have e : wrap64 v = v := by unfold wrap64; omega
            have e2 : Int.tmod v (m : Int) = v % (m : Int) := Int.tmod_eq_emod_of_nonneg v0
            have p1 := Int.emod_nonneg v (show (m : Int) ≠ 0 by omega)
            have p2 := Int.emod_lt_of_pos v (show (0 : Int) < (m : Int) by omega)
            refine ⟨(v % (m : Int)).toNat, ?_, by omega⟩
            rw [e, e2, Int.toNat_of_nonneg p1]
          obtain ⟨ei, him⟩ := hi
          rw [ei]
          have hlt : (l.take m).length = m := by rw [List.length_take]; omega
          have hp1 : (pathOf (l.take m) (i : Int)).2 = true := by
            unfold pathOf
            rw [if_pos ⟨leavesOk_take cl m, by omega, by rw [hlt]; omega⟩]
          have hp2 : (growthOf l (m : Int)).2 = true := by
            unfold growthOf
            rw [if_pos ⟨cl, by omega, by omega⟩]
            split <;> rfl
          have hg := growthOf_len (l := l) (by omega) (m : Int)
          have hpl := pathOf_len (l := l.take m) (i : Int)
          have hpl2 := pathOf_len (l := l) (i : Int)
          refine bsk (impl_pathOf' (l := l.take m) (by omega) (by omega) (i : Int) (by omega)) (bsk (impl_growthOf' (l := l) (by omega) (by omega) (m : Int)) (bsk (impl_lift (k := k) (by omega) _ _ _ _ _ (by omega) (by omega)) (bsk (spec_pathOf (k := k + 1) (by omega) (by omega) (i : Int)) ?_)))
          rw [lift_proves cl him hm, hp1, hp2]
          dsimp only
          rw [if_pos rfl, if_pos rfl, if_pos rfl]
          exact bsk (same_ok _ (by omega) (by omega)) rfl
    · rw [if_neg cl, hbad]
theorem FnLifted (y0 : List Int) (h : y0.length ≤ 9223372036854775807 ∧ ∀ y_ ∈ y0, (Lit.int .u8 y_).wf = true) : ∃ k, laws_FnLifted.f k y0 = some true := ⟨1099511627791 + 2, lifted_at _ (by omega) y0 fun x hx => by
    have := h.2 x hx
    simp [Lit.wf, IntKind.min, IntKind.max, IntKind.signed, IntKind.bits] at this
    omega⟩
end Go.Proofs.Ytflckegggopdnaa.Pure
end
