/- The root of a tree as a plain function; the program's rootOf and the reference's l2Root come to it. Condition: at most 256 leaves. -/
import Derived.Test.YtflckegggopdnaaQSplit
import Derived.Test.YtflckegggopdnaaQPair
import Derived.Test.YtflckegggopdnaaQList
import Derived.Test.YtflckegggopdnaaGTree1
namespace Go.Proofs.Ytflckegggopdnaa.Q
open Go.RowKit Go.Proofs.Ytflckegggopdnaa.B Go.Proofs.YtflckegggopdnaaW.PrintWords Go.Proofs.YtflckegggopdnaaW.PrintLast Go.Proofs.YtflckegggopdnaaW.PrintMore
theorem bs {α β : Type} {x : Option α} {v : α} {F : α → Option β} {r : Option β} (h : x = some v) (k : F v = r) : x.bind F = r := by rw [h]; exact k
/-- The root of the leaves l, by f halvings at most. -/
def rootF : Nat → List ByteArray → D4
  | 0, _ => hashOf ⟨#[]⟩
  | _ + 1, [] => hashOf ⟨#[]⟩
  | _ + 1, [s] => hashLeaf s
  | f + 1, a :: b :: l => hashPair (rootF f ((a :: b :: l).take (spl (l.length + 2)))) (rootF f ((a :: b :: l).drop (spl (l.length + 2))))
theorem impl_root_l (f : Nat) : ∀ (k : Nat) (l : List ByteArray), l.length ≤ f → l.length ≤ 256 → (∀ s ∈ l, s.size ≤ 4611686018427387904) → 30000 + f < k → impl_rootOf.f k l = some (rootF f l) := by
  induction f with
  | zero =>
    intro k l hl _ _ hk
    obtain ⟨k, rfl⟩ : ∃ m, k = m + 1 := ⟨k - 1, by omega⟩
    obtain rfl : l = [] := List.eq_nil_of_length_eq_zero (by omega)
    simp only [impl_rootOf.f]
    rw [if_pos (by rfl)]
    exact bs (impl_hash (by omega) _) rfl
  | succ f ih =>
    intro k l hl h2 hz hk
    obtain ⟨k, rfl⟩ : ∃ m, k = m + 1 := ⟨k - 1, by omega⟩
    match l, hl, h2, hz with
    | [], _, _, _ =>
      simp only [impl_rootOf.f]
      rw [if_pos (by rfl)]
      exact bs (impl_hash (by omega) _) rfl
    | [s], _, _, hz =>
      simp only [impl_rootOf.f]
      rw [if_neg (by simp), if_pos (by simp), if_pos (by simp)]
      exact bs (impl_leaf (by omega) (hz s List.mem_cons_self)) rfl
    | a :: b :: l, hl, h2, hz =>
      simp only [List.length_cons] at hl h2
      have hs := spl_lt (n := l.length + 2) (by omega) (by omega)
      have e1 : (a :: b :: l).length = l.length + 2 := by simp
      simp only [impl_rootOf.f, rootF]
      rw [e1, if_neg (by omega), if_neg (by omega)]
      refine bs (impl_split (by omega) (by omega) (by omega)) ?_
      rw [if_pos (by omega), if_pos (by omega), Int.toNat_natCast]
      refine bs (ih k _ (by rw [List.length_take]; omega) (by rw [List.length_take]; omega) (fun s hs => hz s (List.mem_of_mem_take hs)) (by omega)) ?_
      refine bs (ih k _ (by rw [List.length_drop]; omega) (by rw [List.length_drop]; omega) (fun s hs => hz s (List.mem_of_mem_drop hs)) (by omega)) ?_
      exact bs (impl_pair (by omega) _ _ _ _ _ _ _ _) rfl
theorem spec_root_l (f : Nat) : ∀ (k : Nat) (l : List ByteArray), l.length ≤ f → l.length ≤ 256 → (∀ s ∈ l, s.size ≤ 4611686018427387904) → 30000 + f < k → spec_l2Root.f k l = some (rootF f l) := by
  induction f with
  | zero =>
    intro k l hl _ _ hk
    obtain ⟨k, rfl⟩ : ∃ m, k = m + 1 := ⟨k - 1, by omega⟩
    obtain rfl : l = [] := List.eq_nil_of_length_eq_zero (by omega)
    simp only [spec_l2Root.f]
    rw [if_pos (by rfl)]
    exact bs (spec_hash (by omega) _) rfl
  | succ f ih =>
    intro k l hl h2 hz hk
    obtain ⟨k, rfl⟩ : ∃ m, k = m + 1 := ⟨k - 1, by omega⟩
    match l, hl, h2, hz with
    | [], _, _, _ =>
      simp only [spec_l2Root.f]
      rw [if_pos (by rfl)]
      exact bs (spec_hash (by omega) _) rfl
    | [s], _, _, hz =>
      simp only [spec_l2Root.f]
      rw [if_neg (by simp), if_pos (by simp), if_pos (by simp)]
      exact bs (spec_leaf (by omega) (hz s List.mem_cons_self)) rfl
    | a :: b :: l, hl, h2, hz =>
      simp only [List.length_cons] at hl h2
      have hs := spl_lt (n := l.length + 2) (by omega) (by omega)
      have e1 : (a :: b :: l).length = l.length + 2 := by simp
      simp only [spec_l2Root.f, rootF]
      rw [e1, if_neg (by omega), if_neg (by omega)]
      refine bs (spec_split (by omega) (by omega) (by omega)) ?_
      rw [if_pos (by omega), if_pos (by omega), Int.toNat_natCast]
      refine bs (ih k _ (by rw [List.length_take]; omega) (by rw [List.length_take]; omega) (fun s hs => hz s (List.mem_of_mem_take hs)) (by omega)) ?_
      refine bs (ih k _ (by rw [List.length_drop]; omega) (by rw [List.length_drop]; omega) (fun s hs => hz s (List.mem_of_mem_drop hs)) (by omega)) ?_
      exact bs (spec_pair (by omega) _ _ _ _ _ _ _ _) rfl
/-- The root of leaves. -/
def root (l : List ByteArray) : D4 := rootF 256 l
theorem impl_root {k : Nat} (hk : 31000 ≤ k) {l : List ByteArray} (h : l.length ≤ 256) (hz : ∀ s ∈ l, s.size ≤ 4611686018427387904) : impl_rootOf.f k l = some (root l) := impl_root_l 256 k l h h hz (by omega)
theorem spec_root {k : Nat} (hk : 31000 ≤ k) {l : List ByteArray} (h : l.length ≤ 256) (hz : ∀ s ∈ l, s.size ≤ 4611686018427387904) : spec_l2Root.f k l = some (root l) := spec_root_l 256 k l h h hz (by omega)
end Go.Proofs.Ytflckegggopdnaa.Q
