/- HashBlock and HashBytes as plain functions: the program's and the reference's come to them. No condition. -/
import Derived.Test.YtflckegggopdnaaGImplHash1
import Derived.Test.YtflckegggopdnaaGSpecHash1
import Derived.Test.YtflckegggopdnaaGImplPair1
import Derived.Test.YtflckegggopdnaaGSpecPair1
import Derived.Lib.EndianBits
import Derived.Test.YtflckegggopdnaaQSplit
namespace Go.Proofs.Ytflckegggopdnaa.Q
open Go.RowKit Go.Proofs.Ytflckegggopdnaa.B Go.Proofs.YtflckegggopdnaaW.PrintWords Go.Proofs.YtflckegggopdnaaW.PrintLast Go.Proofs.YtflckegggopdnaaW.PrintMore
abbrev D4 := Int × Int × Int × Int
def rot (n : Int) (x : Int) : Int := Go.bits .or .u64 (shl .u64 x n) (shr .u64 x (64 - n))
def xr (x y : Int) : Int := Go.bits .xor .u64 x y
def wr (x : Int) : Int := IntKind.u64.wrap x
def kc : Int := 12620524952350641003
/-- So many rounds over four words. -/
def hbl : Nat → Int → Int → Int → Int → Int → D4
  | 0, a, b, c, d, _ => (a, b, c, d)
  | n + 1, a, b, c, d, k =>
    hbl n (rot 21 (xr b (wr (c + rot 39 (xr d (wr (wr (a + b) + wr (k + kc)))))))) (wr (c + rot 39 (xr d (wr (wr (a + b) + wr (k + kc)))))) (rot 39 (xr d (wr (wr (a + b) + wr (k + kc))))) (wr (wr (a + b) + wr (k + kc))) (wr (k + kc))
def out4 (s0 s1 s2 s3 : Int) (r : D4) : D4 := (xr r.1 s0, xr r.2.1 s1, xr r.2.2.1 s2, xr r.2.2.2 s3)
/-- A block behind a state. -/
def hb (s x : D4) : D4 := out4 s.1 s.2.1 s.2.2.1 s.2.2.2 (hbl 10 (xr s.1 x.1) (xr s.2.1 x.2.1) (xr s.2.2.1 x.2.2.1) (xr s.2.2.2 x.2.2.2) 0)

theorem wrap_lit (n : Nat) (h : n < 18446744073709551616) : IntKind.u64.wrap (n : Int) = n := by rw [IntKind.wrap_u64]; omega
theorem turn39 (x : Int) : spec_l1Turn.f x 39 = some (rot 39 x) := by
  unfold spec_l1Turn.f
  rw [show IntKind.u64.wrap 39 = 39 from wrap_lit 39 (by decide), show wrap64 (64 - 39) = 25 from by unfold wrap64; decide, show IntKind.u64.wrap 25 = 25 from wrap_lit 25 (by decide), if_pos (by decide), if_pos (by decide)]
  rfl
theorem turn21 (x : Int) : spec_l1Turn.f x 21 = some (rot 21 x) := by
  unfold spec_l1Turn.f
  rw [show IntKind.u64.wrap 21 = 21 from wrap_lit 21 (by decide), show wrap64 (64 - 21) = 43 from by unfold wrap64; decide, show IntKind.u64.wrap 43 = 43 from wrap_lit 43 (by decide), if_pos (by decide), if_pos (by decide)]
  rfl
theorem and63 (n : Nat) (h : n < 64) : Go.bits .and .u64 (n : Int) 63 = n := by
  have := (bits_nat .u64 64 (by decide) wraps_u64 n 63 (by omega) (by decide)).1
  rw [show ((63 : Nat) : Int) = 63 from rfl] at this
  rw [this, show n &&& 63 = n % 64 from Nat.and_two_pow_sub_one_eq_mod n 6]
  omega
theorem rl39 (x : Int) : bits_RotateLeft64.f x 39 = some (rot 39 x) := by
  unfold bits_RotateLeft64.f
  rw [show IntKind.u64.wrap 39 = ((39 : Nat) : Int) from wrap_lit 39 (by decide), and63 39 (by decide), show (64 : Int) - ((39 : Nat) : Int) = ((25 : Nat) : Int) from rfl, wrap_lit 25 (by decide), if_pos (by decide), if_pos (by decide)]
  rfl
theorem rl21 (x : Int) : bits_RotateLeft64.f x 21 = some (rot 21 x) := by
  unfold bits_RotateLeft64.f
  rw [show IntKind.u64.wrap 21 = ((21 : Nat) : Int) from wrap_lit 21 (by decide), and63 21 (by decide), show (64 : Int) - ((21 : Nat) : Int) = ((43 : Nat) : Int) from rfl, wrap_lit 43 (by decide), if_pos (by decide), if_pos (by decide)]
  rfl
theorem wr_sum (a b k : Int) : IntKind.u64.wrap (a + IntKind.u64.wrap (b + k)) = wr (wr (a + b) + k) := by
  unfold wr
  simp only [IntKind.wrap_u64]
  omega

theorem spec_block_l (n : Nat) : ∀ (k : Nat) (a b c d kk : Int) (i : Nat) (s0 s1 s2 s3 : Int), i + n = 10 → n < k → spec_HashBlock.l0 k a b c d kk (i : Int) s0 s1 s2 s3 = some (out4 s0 s1 s2 s3 (hbl n a b c d kk)) := by
  induction n with
  | zero =>
    intro k a b c d kk i s0 s1 s2 s3 hi hk
    obtain ⟨k, rfl⟩ : ∃ m, k = m + 1 := ⟨k - 1, by omega⟩
    simp only [spec_HashBlock.l0]
    rw [if_neg (by omega)]
    rfl
  | succ n ih =>
    intro k a b c d kk i s0 s1 s2 s3 hi hk
    obtain ⟨k, rfl⟩ : ∃ m, k = m + 1 := ⟨k - 1, by omega⟩
    simp only [spec_HashBlock.l0]
    rw [if_pos (by omega), turn39]
    simp only [Option.bind_some]
    rw [turn21]
    simp only [Option.bind_some]
    rw [show wrap64 ((i : Int) + 1) = ((i + 1 : Nat) : Int) by unfold wrap64; omega]
    rw [ih k _ _ _ _ _ (i + 1) s0 s1 s2 s3 (by omega) (by omega)]
    rfl
theorem impl_block_l (n : Nat) : ∀ (k : Nat) (a b c d kk : Int) (i : Nat) (s0 s1 s2 s3 : Int), i + n = 10 → n < k → impl_HashBlock.l0 k a b c d kk (i : Int) s0 s1 s2 s3 = some (out4 s0 s1 s2 s3 (hbl n a b c d kk)) := by
  induction n with
  | zero =>
    intro k a b c d kk i s0 s1 s2 s3 hi hk
    obtain ⟨k, rfl⟩ : ∃ m, k = m + 1 := ⟨k - 1, by omega⟩
    simp only [impl_HashBlock.l0]
    rw [if_neg (by omega)]
    rfl
  | succ n ih =>
    intro k a b c d kk i s0 s1 s2 s3 hi hk
    obtain ⟨k, rfl⟩ : ∃ m, k = m + 1 := ⟨k - 1, by omega⟩
    simp only [impl_HashBlock.l0]
    rw [if_pos (by omega), wr_sum, rl39]
    simp only [Option.bind_some]
    rw [rl21]
    simp only [Option.bind_some]
    rw [show wrap64 ((i : Int) + 1) = ((i + 1 : Nat) : Int) by unfold wrap64; omega]
    rw [ih k _ _ _ _ _ (i + 1) s0 s1 s2 s3 (by omega) (by omega)]
    rfl
theorem spec_block {k : Nat} (hk : 11 ≤ k) (a b c d x y z u : Int) : spec_HashBlock.f k a b c d x y z u = some (hb (a, b, c, d) (x, y, z, u)) := by
  unfold spec_HashBlock.f
  exact spec_block_l 10 k _ _ _ _ 0 0 a b c d (by omega) (by omega)
theorem impl_block {k : Nat} (hk : 11 ≤ k) (a b c d x y z u : Int) : impl_HashBlock.f k a b c d x y z u = some (hb (a, b, c, d) (x, y, z, u)) := by
  unfold impl_HashBlock.f
  exact impl_block_l 10 k _ _ _ _ 0 0 a b c d (by omega) (by omega)

/-! A word in eight bytes -/
def be8 (v : Int) : List Int := [(v / 72057594037927936) % 256, (v / 281474976710656) % 256, (v / 1099511627776) % 256, (v / 4294967296) % 256, (v / 16777216) % 256, (v / 65536) % 256, (v / 256) % 256, v % 256]
theorem be8_length (v : Int) : (be8 v).length = 8 := rfl
theorem app64 (l : List Int) (v : Int) (h : l.length + 8 < 140737488355328) : binary_bigEndian_AppendUint64.f l v = some (l ++ be8 v) := by
  unfold binary_bigEndian_AppendUint64.f
  simp only [Option.bind_some]
  rw [if_pos (by simpa using h)]
  rfl
theorem shr_lit (v : Int) (n : Nat) (h : n ≤ 64) : shr .u64 v (n : Int) = v / 2 ^ n := by
  unfold shr
  rw [show (min ((n : Int).toNat) (IntKind.bits .u64)) = n by show min _ 64 = n; omega]
def tail8 (v : Int) : Nat → List Int
  | 0 => []
  | j + 1 => (v / 2 ^ (8 * j)) % 256 :: tail8 v j
theorem tail8_is (v : Int) : tail8 v 8 = be8 v := by
  simp [tail8, be8]
theorem spec_bytes_l (j : Nat) : ∀ (k : Nat) (v : Int) (acc : List Int), j < k → j ≤ 8 → acc.length + j ≤ 8 → spec_l1Bytes.l0 k v acc ((j : Int) - 1) = some (strOfNums (acc ++ tail8 v j)) := by
  induction j with
  | zero =>
    intro k v acc hk _ _
    obtain ⟨k, rfl⟩ : ∃ m, k = m + 1 := ⟨k - 1, by omega⟩
    simp only [spec_l1Bytes.l0, tail8]
    rw [if_neg (by omega), List.append_nil]
  | succ j ih =>
    intro k v acc hk hj hl
    obtain ⟨k, rfl⟩ : ∃ m, k = m + 1 := ⟨k - 1, by omega⟩
    simp only [spec_l1Bytes.l0, tail8]
    rw [show (((j + 1 : Nat) : Int) - 1) = (j : Int) by omega, if_pos (by omega), show wrap64 (8 * (j : Int)) = ((8 * j : Nat) : Int) by unfold wrap64; omega, wrap_lit (8 * j) (by omega), if_pos (by omega), if_pos (by omega), shr_lit v (8 * j) (by omega)]
    rw [show wrap64 ((j : Int) - 1) = (j : Int) - 1 by unfold wrap64; omega, ih k v _ (by omega) (by omega) (by simp; omega)]
    simp
theorem spec_bytes {k : Nat} (hk : 9 ≤ k) (v : Int) : spec_l1Bytes.f k v = some (strOfNums (be8 v)) := by
  unfold spec_l1Bytes.f
  have := spec_bytes_l 8 k v [] (by omega) (by omega) (by simp)
  rw [List.nil_append, tail8_is] at this
  exact this
def be32 (d : D4) : List Int := be8 d.1 ++ be8 d.2.1 ++ be8 d.2.2.1 ++ be8 d.2.2.2
theorem be32_length (d : D4) : (be32 d).length = 32 := rfl
theorem str_append (a b : List Int) : strOfNums a ++ strOfNums b = strOfNums (a ++ b) := by
  apply ByteArray.ext
  simp [strOfNums]
theorem str_size (a : List Int) : (strOfNums a).size = a.length := strOfNums_size a
theorem spec_hbytes {k : Nat} (hk : 9 ≤ k) (a b c d : Int) : spec_HashBytes.f k a b c d = some (strOfNums (be32 (a, b, c, d))) := by
  unfold spec_HashBytes.f
  rw [spec_bytes hk, spec_bytes hk, spec_bytes hk, spec_bytes hk]
  simp only [Option.bind_some, str_append, str_size]
  rw [if_pos (by simp [be8_length]), if_pos (by simp [be8_length]), if_pos (by simp [be8_length])]
  rfl
theorem impl_hbytes_l (n : Nat) : ∀ (k : Nat) (acc l : List Int) (i : Nat), l.length = i + n → n < k → acc.length + 8 * n < 1000 → l.length < 1000 → impl_HashBytes.l0 k acc l (l.length : Int) (i : Int) = some (strOfNums (acc ++ (l.drop i).flatMap be8)) := by
  induction n with
  | zero =>
    intro k acc l i hl hk _ _
    obtain ⟨k, rfl⟩ : ∃ m, k = m + 1 := ⟨k - 1, by omega⟩
    simp only [impl_HashBytes.l0]
    rw [if_neg (by omega), List.drop_of_length_le (by omega)]
    simp
  | succ n ih =>
    intro k acc l i hl hk ha hll
    obtain ⟨k, rfl⟩ : ∃ m, k = m + 1 := ⟨k - 1, by omega⟩
    simp only [impl_HashBytes.l0]
    rw [if_pos (by omega), if_pos (by omega), if_pos (by omega), app64 _ _ (by omega)]
    simp only [Option.bind_some]
    rw [show wrap64 ((i : Int) + 1) = ((i + 1 : Nat) : Int) by unfold wrap64; omega, ih k _ l (i + 1) (by omega) (by omega) (by simp [be8_length]; omega) hll]
    have hi : i < l.length := by omega
    have e : rd l (i : Int) = l[i] := by simp [rd, List.getD, List.getElem?_eq_getElem hi]
    rw [List.drop_eq_getElem_cons hi, List.flatMap_cons, e, List.append_assoc]
theorem impl_hbytes {k : Nat} (hk : 5 ≤ k) (a b c d : Int) : impl_HashBytes.f k a b c d = some (strOfNums (be32 (a, b, c, d))) := by
  unfold impl_HashBytes.f
  simp only [Option.bind_some]
  have := impl_hbytes_l 4 k [] [a, b, c, d] 0 rfl (by omega) (by simp) (by simp)
  rw [List.nil_append] at this
  rw [show (([a, b, c, d] : List Int).drop 0).flatMap be8 = be32 (a, b, c, d) by simp [be32]] at this
  exact this
end Go.Proofs.Ytflckegggopdnaa.Q
