/- Words and digests in bytes: HashBytes of the program and of the reference as plain lists. No condition. -/
import Derived.Lib.EndianBits
import Derived.Test.YtflcbanemolkfaaZWBGImplPair1
import Derived.Test.YtflcbanemolkfaaZWBGSpecPair1
import Derived.Test.YtflcbanemolkfaaZWBQIn
namespace Go.Proofs.Ytflcbanemolkfaa.Q
open Go.RowKit Go.Proofs.Ytflcbanemolkfaa.B Go.Proofs.YtflcbanemolkfaaW.PrintWords Go.Proofs.YtflcbanemolkfaaW.PrintLast Go.Proofs.YtflcbanemolkfaaW.PrintMore
abbrev D4 := Int × Int × Int × Int
theorem wrap_lit (n : Nat) (h : n < 18446744073709551616) : IntKind.u64.wrap (n : Int) = n := by rw [IntKind.wrap_u64]; omega
def be8 (v : Int) : List Int := [(v / 72057594037927936) % 256, (v / 281474976710656) % 256, (v / 1099511627776) % 256, (v / 4294967296) % 256, (v / 16777216) % 256, (v / 65536) % 256, (v / 256) % 256, v % 256]
theorem be8_length (v : Int) : (be8 v).length = 8 := rfl
theorem app64 (l : List Int) (v : Int) (h : l.length + 8 < 140737488355328) : binary_bigEndian_AppendUint64.f l v = some (l ++ be8 v) := by
  unfold binary_bigEndian_AppendUint64.f
  simp only [Option.bind_some]
  rw [if_pos (by simpa using h)]
  rfl
theorem shr_lit (v : Int) (n : Nat) (h : n ≤ 64) : shr .u64 v (n : Int) = v / 2 ^ n := by
  unfold shr
  rw [show (min ((n : Int).toNat) (IntKind.bits .u64)) = n by show min _ 64 = n; omega]
def tail8 (v : Int) : Nat → List Int
  | 0 => []
  | j + 1 => (v / 2 ^ (8 * j)) % 256 :: tail8 v j
theorem tail8_is (v : Int) : tail8 v 8 = be8 v := by
  simp [tail8, be8]
theorem spec_bytes_l (j : Nat) : ∀ (k : Nat) (v : Int) (acc : List Int), j < k → j ≤ 8 → acc.length + j ≤ 8 → spec_l1Bytes.l0 k v acc ((j : Int) - 1) = some (strOfNums (acc ++ tail8 v j)) := by
  induction j with
  | zero =>
    intro k v acc hk _ _
    obtain ⟨k, rfl⟩ : ∃ m, k = m + 1 := ⟨k - 1, by omega⟩
    simp only [spec_l1Bytes.l0, tail8]
    rw [if_neg (by omega), List.append_nil]
  | succ j ih =>
    intro k v acc hk hj hl
    obtain ⟨k, rfl⟩ : ∃ m, k = m + 1 := ⟨k - 1, by omega⟩
    simp only [spec_l1Bytes.l0, tail8]
    rw [show (((j + 1 : Nat) : Int) - 1) = (j : Int) by omega, if_pos (by omega), show wrap64 (8 * (j : Int)) = ((8 * j : Nat) : Int) by unfold wrap64; omega, wrap_lit (8 * j) (by omega), if_pos (by omega), if_pos (by omega), shr_lit v (8 * j) (by omega)]
    rw [show wrap64 ((j : Int) - 1) = (j : Int) - 1 by unfold wrap64; omega, ih k v _ (by omega) (by omega) (by simp; omega)]
    simp
theorem spec_bytes {k : Nat} (hk : 9 ≤ k) (v : Int) : spec_l1Bytes.f k v = some (strOfNums (be8 v)) := by
  unfold spec_l1Bytes.f
  have := spec_bytes_l 8 k v [] (by omega) (by omega) (by simp)
  rw [List.nil_append, tail8_is] at this
  exact this
def be32 (d : D4) : List Int := be8 d.1 ++ be8 d.2.1 ++ be8 d.2.2.1 ++ be8 d.2.2.2
theorem be32_length (d : D4) : (be32 d).length = 32 := rfl
theorem str_append (a b : List Int) : strOfNums a ++ strOfNums b = strOfNums (a ++ b) := by
  apply ByteArray.ext
  simp [strOfNums]
theorem str_size (a : List Int) : (strOfNums a).size = a.length := strOfNums_size a
theorem spec_hbytes {k : Nat} (hk : 9 ≤ k) (a b c d : Int) : spec_HashBytes.f k a b c d = some (strOfNums (be32 (a, b, c, d))) := by
  unfold spec_HashBytes.f
  rw [spec_bytes hk, spec_bytes hk, spec_bytes hk, spec_bytes hk]
  simp only [Option.bind_some, str_append, str_size]
  rw [if_pos (by simp [be8_length]), if_pos (by simp [be8_length]), if_pos (by simp [be8_length])]
  rfl
theorem impl_hbytes_l (n : Nat) : ∀ (k : Nat) (acc l : List Int) (i : Nat), l.length = i + n → n < k → acc.length + 8 * n < 1000 → l.length < 1000 → impl_HashBytes.l0 k acc l (l.length : Int) (i : Int) = some (strOfNums (acc ++ (l.drop i).flatMap be8)) := by
  induction n with
  | zero =>
    intro k acc l i hl hk _ _
    obtain ⟨k, rfl⟩ : ∃ m, k = m + 1 := ⟨k - 1, by omega⟩
    simp only [impl_HashBytes.l0]
    rw [if_neg (by omega), List.drop_of_length_le (by omega)]
    simp
  | succ n ih =>
    intro k acc l i hl hk ha hll
    obtain ⟨k, rfl⟩ : ∃ m, k = m + 1 := ⟨k - 1, by omega⟩
    simp only [impl_HashBytes.l0]
    rw [if_pos (by omega), if_pos (by omega), if_pos (by omega), app64 _ _ (by omega)]
    simp only [Option.bind_some]
    rw [show wrap64 ((i : Int) + 1) = ((i + 1 : Nat) : Int) by unfold wrap64; omega, ih k _ l (i + 1) (by omega) (by omega) (by simp [be8_length]; omega) hll]
    have hi : i < l.length := by omega
    have e : rd l (i : Int) = l[i] := by simp [rd, List.getD, List.getElem?_eq_getElem hi]
    rw [List.drop_eq_getElem_cons hi, List.flatMap_cons, e, List.append_assoc]
theorem impl_hbytes {k : Nat} (hk : 5 ≤ k) (a b c d : Int) : impl_HashBytes.f k a b c d = some (strOfNums (be32 (a, b, c, d))) := by
  unfold impl_HashBytes.f
  simp only [Option.bind_some]
  have := impl_hbytes_l 4 k [] [a, b, c, d] 0 rfl (by omega) (by simp) (by simp)
  rw [List.nil_append] at this
  rw [show (([a, b, c, d] : List Int).drop 0).flatMap be8 = be32 (a, b, c, d) by simp [be32]] at this
  exact this
def Bytes8 (l : List Int) : Prop := ∀ x ∈ l, 0 ≤ x ∧ x ≤ 255
theorem bytesOf_str (l : List Int) (h : Bytes8 l) : bytesOf (strOfNums l) = l := by
  simp only [bytesOf, strOfNums_data, List.map_map]
  conv => rhs; rw [← List.map_id l]
  apply List.map_congr_left
  intro x hx
  have := h x hx
  simp only [Function.comp, id, UInt8.toNat_ofNat']
  omega
theorem str_bytesOf (s : ByteArray) : strOfNums (bytesOf s) = s := by
  apply ByteArray.ext
  simp [strOfNums, bytesOf, Function.comp_def]
theorem be8_8 (v : Int) : Bytes8 (be8 v) := by
  intro x hx
  simp only [be8, List.mem_cons, List.not_mem_nil, or_false] at hx
  rcases hx with rfl | rfl | rfl | rfl | rfl | rfl | rfl | rfl <;> omega
theorem Bytes8.append {a b : List Int} (ha : Bytes8 a) (hb : Bytes8 b) : Bytes8 (a ++ b) := fun x hx => (List.mem_append.1 hx).elim (ha x) (hb x)
theorem Bytes8.drop {a : List Int} (ha : Bytes8 a) (n : Nat) : Bytes8 (a.drop n) := fun x hx => ha x (List.mem_of_mem_drop hx)
theorem Bytes8.take {a : List Int} (ha : Bytes8 a) (n : Nat) : Bytes8 (a.take n) := fun x hx => ha x (List.mem_of_mem_take hx)
end Go.Proofs.Ytflcbanemolkfaa.Q
