/- HashLeaf and HashPair as plain functions: the program's and the reference's come to them. Condition of the leaf's: its text is no longer than 2^62 bytes. -/
import Derived.Test.YtflckegggopdnaaQHash
import Derived.Test.YtflckegggopdnaaGImplPair1
import Derived.Test.YtflckegggopdnaaGSpecPair1
namespace Go.Proofs.Ytflckegggopdnaa.Q
open Go.RowKit Go.Proofs.Ytflckegggopdnaa.B Go.Proofs.YtflckegggopdnaaW.PrintWords Go.Proofs.YtflckegggopdnaaW.PrintLast Go.Proofs.YtflckegggopdnaaW.PrintMore
def leafText (s : ByteArray) : ByteArray := (⟨#[0]⟩ : ByteArray) ++ s
def pairText (x y : D4) : ByteArray := strOfNums (1 :: (be32 x ++ be32 y))
def hashLeaf (s : ByteArray) : D4 := hashOf (leafText s)
def hashPair (x y : D4) : D4 := hashOf (pairText x y)
theorem d4_eta (d : D4) : (d.1, d.2.1, d.2.2.1, d.2.2.2) = d := rfl
theorem spec_leafText {s : ByteArray} (h : s.size ≤ 4611686018427387904) : spec_l1LeafText.f s = some (leafText s) := by
  unfold spec_l1LeafText.f
  simp only [Option.bind_some, str_size]
  rw [if_pos (by simp; omega)]
  rfl
theorem impl_leafText {s : ByteArray} (h : s.size ≤ 4611686018427387904) : impl_leafText.f s = some (leafText s) := by
  unfold impl_leafText.f
  rw [if_pos (by omega)]
  rfl
theorem spec_leaf {k : Nat} (hk : 30000 ≤ k) {s : ByteArray} (h : s.size ≤ 4611686018427387904) : spec_HashLeaf.f k s = some (hashLeaf s) := by
  unfold spec_HashLeaf.f
  rw [spec_leafText h]
  simp only [Option.bind_some]
  rw [spec_hash hk]
  rfl
theorem impl_leaf {k : Nat} (hk : 30000 ≤ k) {s : ByteArray} (h : s.size ≤ 4611686018427387904) : impl_HashLeaf.f k s = some (hashLeaf s) := by
  unfold impl_HashLeaf.f
  rw [impl_leafText h]
  simp only [Option.bind_some]
  rw [impl_hash hk]
  rfl
theorem spec_pairText {k : Nat} (hk : 9 ≤ k) (a b c d x y z u : Int) : spec_l1PairText.f k a b c d x y z u = some (pairText (a, b, c, d) (x, y, z, u)) := by
  unfold spec_l1PairText.f
  rw [spec_hbytes hk, spec_hbytes hk]
  simp only [Option.bind_some, str_size, str_append]
  rw [if_pos (by simp [be32_length]), if_pos (by simp [be32_length])]
  rfl
theorem impl_pairText {k : Nat} (hk : 9 ≤ k) (a b c d x y z u : Int) : impl_pairText.f k a b c d x y z u = some (pairText (a, b, c, d) (x, y, z, u)) := by
  unfold impl_pairText.f
  rw [impl_hbytes (by omega), impl_hbytes (by omega)]
  simp only [Option.bind_some, show (⟨#[1]⟩ : ByteArray) = strOfNums [1] from rfl, str_size, str_append]
  rw [if_pos (by simp [be32_length]), if_pos (by simp [be32_length])]
  rfl
theorem spec_pair {k : Nat} (hk : 30000 ≤ k) (a b c d x y z u : Int) : spec_HashPair.f k a b c d x y z u = some (hashPair (a, b, c, d) (x, y, z, u)) := by
  unfold spec_HashPair.f
  rw [spec_pairText (by omega)]
  simp only [Option.bind_some]
  rw [spec_hash hk]
  rfl
theorem impl_pair {k : Nat} (hk : 30000 ≤ k) (a b c d x y z u : Int) : impl_HashPair.f k a b c d x y z u = some (hashPair (a, b, c, d) (x, y, z, u)) := by
  unfold impl_HashPair.f
  rw [impl_pairText (by omega)]
  simp only [Option.bind_some]
  rw [impl_hash hk]
  rfl
end Go.Proofs.Ytflckegggopdnaa.Q
