/- Digests in their forms: bytes, digits, and the texts that the reference draws. Conditions: those that each theorem names. -/
import Derived.Test.YtflcbanemolkfaaDoorZHFQHexRead
import Derived.Test.YtflcbanemolkfaaDoorZHFGImplPair1
import Derived.Test.YtflcbanemolkfaaDoorZHFGSpecPair1
import Derived.Test.YtflcbanemolkfaaDoorZHFHHashText
import Derived.Test.YtflcbanemolkfaaDoorZHFFSpecHashText
import Derived.Test.YtflcbanemolkfaaDoorZHFGL11
import Derived.Test.YtflcbanemolkfaaDoorZHFFSpecL1RdWord
import Derived.Test.YtflcbanemolkfaaDoorZHFFSpecL1RdDigest
import Derived.Test.YtflcbanemolkfaaDoorZHFFSpecDrawHashBytes
import Derived.Test.YtflcbanemolkfaaDoorZHFFSpecDrawHashBack
import Derived.Test.YtflcbanemolkfaaDoorZHFFSpecDrawHashRead
namespace Go.Proofs.YtflcbanemolkfaaDoor.Q
open Go.RowKit Go.Proofs.YtflcbanemolkfaaDoor.B Go.Proofs.YtflcbanemolkfaaDoorW.PrintWords Go.Proofs.YtflcbanemolkfaaDoorW.PrintLast Go.Proofs.YtflcbanemolkfaaDoorW.PrintMore
set_option linter.unusedVariables false
set_option linter.unusedSimpArgs false
abbrev D4 := Int × Int × Int × Int
theorem wrap_lit (n : Nat) (h : n < 18446744073709551616) : IntKind.u64.wrap (n : Int) = n := by rw [IntKind.wrap_u64]; omega
def be8 (v : Int) : List Int := [(v / 72057594037927936) % 256, (v / 281474976710656) % 256, (v / 1099511627776) % 256, (v / 4294967296) % 256, (v / 16777216) % 256, (v / 65536) % 256, (v / 256) % 256, v % 256]
theorem be8_length (v : Int) : (be8 v).length = 8 := rfl
theorem app64 (l : List Int) (v : Int) (h : l.length + 8 < 140737488355328) : binary_bigEndian_AppendUint64.f l v = some (l ++ be8 v) := by
  unfold binary_bigEndian_AppendUint64.f
  simp only [Option.bind_some]
  rw [if_pos (by simpa using h)]
  rfl
theorem shr_lit (v : Int) (n : Nat) (h : n ≤ 64) : shr .u64 v (n : Int) = v / 2 ^ n := by
  unfold shr
  rw [show (min ((n : Int).toNat) (IntKind.bits .u64)) = n by show min _ 64 = n; omega]
def tail8 (v : Int) : Nat → List Int
  | 0 => []
  | j + 1 => (v / 2 ^ (8 * j)) % 256 :: tail8 v j
theorem tail8_is (v : Int) : tail8 v 8 = be8 v := by
  simp [tail8, be8]
theorem spec_bytes_l (j : Nat) : ∀ (k : Nat) (v : Int) (acc : List Int), j < k → j ≤ 8 → acc.length + j ≤ 8 → spec_l1Bytes.l0 k v acc ((j : Int) - 1) = some (strOfNums (acc ++ tail8 v j)) := by
  induction j with
  | zero =>
    intro k v acc hk _ _
    obtain ⟨k, rfl⟩ : ∃ m, k = m + 1 := ⟨k - 1, by omega⟩
    simp only [spec_l1Bytes.l0, tail8]
    rw [if_neg (by omega), List.append_nil]
  | succ j ih =>
    intro k v acc hk hj hl
    obtain ⟨k, rfl⟩ : ∃ m, k = m + 1 := ⟨k - 1, by omega⟩
    simp only [spec_l1Bytes.l0, tail8]
    rw [show (((j + 1 : Nat) : Int) - 1) = (j : Int) by omega, if_pos (by omega), show wrap64 (8 * (j : Int)) = ((8 * j : Nat) : Int) by unfold wrap64; omega, wrap_lit (8 * j) (by omega), if_pos (by omega), if_pos (by omega), shr_lit v (8 * j) (by omega)]
    rw [show wrap64 ((j : Int) - 1) = (j : Int) - 1 by unfold wrap64; omega, ih k v _ (by omega) (by omega) (by simp; omega)]
    simp
theorem spec_bytes {k : Nat} (hk : 9 ≤ k) (v : Int) : spec_l1Bytes.f k v = some (strOfNums (be8 v)) := by
  unfold spec_l1Bytes.f
  have := spec_bytes_l 8 k v [] (by omega) (by omega) (by simp)
  rw [List.nil_append, tail8_is] at this
  exact this
def be32 (d : D4) : List Int := be8 d.1 ++ be8 d.2.1 ++ be8 d.2.2.1 ++ be8 d.2.2.2
theorem be32_length (d : D4) : (be32 d).length = 32 := rfl
theorem str_append (a b : List Int) : strOfNums a ++ strOfNums b = strOfNums (a ++ b) := by
  apply ByteArray.ext
  simp [strOfNums]
theorem str_size (a : List Int) : (strOfNums a).size = a.length := strOfNums_size a
theorem spec_hbytes {k : Nat} (hk : 9 ≤ k) (a b c d : Int) : spec_HashBytes.f k a b c d = some (strOfNums (be32 (a, b, c, d))) := by
  unfold spec_HashBytes.f
  rw [spec_bytes hk, spec_bytes hk, spec_bytes hk, spec_bytes hk]
  simp only [Option.bind_some, str_append, str_size]
  rw [if_pos (by simp [be8_length]), if_pos (by simp [be8_length]), if_pos (by simp [be8_length])]
  rfl
theorem impl_hbytes_l (n : Nat) : ∀ (k : Nat) (acc l : List Int) (i : Nat), l.length = i + n → n < k → acc.length + 8 * n < 1000 → l.length < 1000 → impl_HashBytes.l0 k acc l (l.length : Int) (i : Int) = some (strOfNums (acc ++ (l.drop i).flatMap be8)) := by
  induction n with
  | zero =>
    intro k acc l i hl hk _ _
    obtain ⟨k, rfl⟩ : ∃ m, k = m + 1 := ⟨k - 1, by omega⟩
    simp only [impl_HashBytes.l0]
    rw [if_neg (by omega), List.drop_of_length_le (by omega)]
    simp
  | succ n ih =>
    intro k acc l i hl hk ha hll
    obtain ⟨k, rfl⟩ : ∃ m, k = m + 1 := ⟨k - 1, by omega⟩
    simp only [impl_HashBytes.l0]
    rw [if_pos (by omega), if_pos (by omega), if_pos (by omega), app64 _ _ (by omega)]
    simp only [Option.bind_some]
    rw [show wrap64 ((i : Int) + 1) = ((i + 1 : Nat) : Int) by unfold wrap64; omega, ih k _ l (i + 1) (by omega) (by omega) (by simp [be8_length]; omega) hll]
    have hi : i < l.length := by omega
    have e : rd l (i : Int) = l[i] := by simp [rd, List.getD, List.getElem?_eq_getElem hi]
    rw [List.drop_eq_getElem_cons hi, List.flatMap_cons, e, List.append_assoc]
theorem impl_hbytes {k : Nat} (hk : 5 ≤ k) (a b c d : Int) : impl_HashBytes.f k a b c d = some (strOfNums (be32 (a, b, c, d))) := by
  unfold impl_HashBytes.f
  simp only [Option.bind_some]
  have := impl_hbytes_l 4 k [] [a, b, c, d] 0 rfl (by omega) (by simp) (by simp)
  rw [List.nil_append] at this
  rw [show (([a, b, c, d] : List Int).drop 0).flatMap be8 = be32 (a, b, c, d) by simp [be32]] at this
  exact this
theorem be8_8 (v : Int) : Bytes8 (be8 v) := by
  intro x hx
  simp only [be8, List.mem_cons, List.not_mem_nil, or_false] at hx
  rcases hx with rfl | rfl | rfl | rfl | rfl | rfl | rfl | rfl <;> omega
theorem bsx {α β : Type} {x : Option α} {v : α} {F : α → Option β} {r : Option β} (h : x = some v) (k : F v = r) : x.bind F = r := by rw [h]; exact k
theorem step64x {i : Nat} (h : i < 4611686018427387904) : wrap64 ((i : Int) + 1) = ((i + 1 : Nat) : Int) := by unfold wrap64; omega
def digit (n : Int) : Int := if n < 10 then 48 + n else 87 + n
def hexL : List Int → List Int
  | [] => []
  | b :: l => digit (b / 16) :: digit (b % 16) :: hexL l
theorem hexL_length (l : List Int) : (hexL l).length = 2 * l.length := by
  induction l with
  | nil => rfl
  | cons b l ih => simp only [hexL, List.length_cons, ih]; omega
theorem digits_table : ∀ n : Fin 16, bt (⟨#[48, 49, 50, 51, 52, 53, 54, 55, 56, 57, 97, 98, 99, 100, 101, 102]⟩ : ByteArray) ((n.val : Nat) : Int) = digit ((n.val : Nat) : Int) := by decide +kernel
theorem digit_at {n : Int} (h0 : 0 ≤ n) (h1 : n < 16) : bt (⟨#[48, 49, 50, 51, 52, 53, 54, 55, 56, 57, 97, 98, 99, 100, 101, 102]⟩ : ByteArray) n = digit n := by
  have := digits_table ⟨n.toNat, by omega⟩
  simp only at this
  rw [show ((n.toNat : Nat) : Int) = n by omega] at this
  exact this
theorem and15 : ∀ n : Fin 256, Go.bits .and .u8 ((n.val : Nat) : Int) 15 = ((n.val % 16 : Nat) : Int) := by decide +kernel
theorem and15_at {b : Int} (h0 : 0 ≤ b) (h1 : b ≤ 255) : Go.bits .and .u8 b 15 = b % 16 := by
  have := and15 ⟨b.toNat, by omega⟩
  simp only at this
  rw [show ((b.toNat : Nat) : Int) = b by omega] at this
  rw [this]
  omega
theorem hexL_take (l : List Int) (i : Nat) (h : i < l.length) : hexL (l.take (i + 1)) = hexL (l.take i) ++ [digit (l[i] / 16), digit (l[i] % 16)] := by
  induction l generalizing i with
  | nil => exact absurd h (by simp)
  | cons b l ih =>
    cases i with
    | zero => simp [hexL]
    | succ i =>
      simp only [List.take_succ_cons, hexL, List.getElem_cons_succ, List.cons_append]
      rw [ih i (by simpa using h)]
theorem encode_l (l : List Int) (h8 : Bytes8 l) (hl : l.length ≤ 10000) (n : Nat) : ∀ (k i : Nat), l.length = i + n → n < k →
    hex_Encode.l0 k (hexL (l.take i) ++ List.replicate (2 * n) 0) l ((2 * i : Nat) : Int) l (l.length : Int) (i : Int) = some (wrap64 ((l.length : Int) * 2), hexL l) := by
  induction n with
  | zero =>
    intro k i h hk
    obtain ⟨k, rfl⟩ : ∃ q, k = q + 1 := ⟨k - 1, by omega⟩
    rw [hex_Encode.l0, if_neg (by omega), List.take_of_length_le (by omega)]
    simp
  | succ n ih =>
    intro k i h hk
    obtain ⟨k, rfl⟩ : ∃ q, k = q + 1 := ⟨k - 1, by omega⟩
    have hi : i < l.length := by omega
    have hb := h8 _ (List.getElem_mem hi)
    have hlen : (hexL (l.take i)).length = 2 * i := by rw [hexL_length, List.length_take]; omega
    have d0 : 0 ≤ l[i] / 16 := by omega
    have d1 : l[i] / 16 < 16 := by omega
    have m0 : 0 ≤ l[i] % 16 := by omega
    have m1 : l[i] % 16 < 16 := by omega
    rw [hex_Encode.l0, if_pos (by omega), if_pos (by omega), if_pos (by omega), rd_nat hi, and15_at hb.1 hb.2, if_pos d0, if_pos d1, if_pos (by omega), if_pos (by simp; omega), if_pos m0, if_pos m1]
    rw [show wrap64 (((2 * i : Nat) : Int) + 1) = ((2 * i + 1 : Nat) : Int) by unfold wrap64; omega, show wrap64 (((2 * i : Nat) : Int) + 2) = ((2 * (i + 1) : Nat) : Int) by unfold wrap64; omega, step64x (by omega), if_pos (by omega), if_pos (by simp; omega), digit_at d0 d1, digit_at m0 m1, Int.toNat_natCast, Int.toNat_natCast]
    have e : ((hexL (l.take i) ++ List.replicate (2 * (n + 1)) 0).set (2 * i) (digit (l[i] / 16))).set (2 * i + 1) (digit (l[i] % 16)) = hexL (l.take (i + 1)) ++ List.replicate (2 * n) 0 := by
      rw [hexL_take l i hi, show 2 * (n + 1) = (2 * n + 1) + 1 by omega, List.replicate_succ, List.replicate_succ, List.set_append_right _ _ (by omega), hlen, Nat.sub_self, List.set_cons_zero, List.set_append_right _ _ (by omega), hlen, Nat.add_sub_cancel_left, List.set_cons_succ, List.set_cons_zero, List.append_assoc]
      rfl
    rw [e]
    exact ih k (i + 1) (by omega) (by omega)
theorem impl_hex {k : Nat} (l : List Int) (h8 : Bytes8 l) (hl : l.length ≤ 10000) (hk : l.length < k) : hex_EncodeToString.f k l = some (strOfNums (hexL l)) := by
  have e1 : hex_EncodedLen.f (l.length : Int) = some ((2 * l.length : Nat) : Int) := by
    unfold hex_EncodedLen.f
    refine congrArg some ?_
    unfold wrap64
    omega
  have e2 := encode_l l h8 hl l.length k 0 (by omega) hk
  rw [List.take_zero] at e2
  have e3 : hex_Encode.f k (List.replicate (2 * l.length) 0) l = some (wrap64 ((l.length : Int) * 2), hexL l) := e2
  unfold hex_EncodeToString.f
  refine bsx e1 ?_
  have hle : 2 * l.length ≤ 281474976710656 := by omega
  rw [if_pos (Int.natCast_nonneg _), Int.toNat_natCast, if_pos hle]
  exact bsx e3 rfl
theorem spec_digit {n : Int} (h0 : 0 ≤ n) (h1 : n < 16) : spec_l1Hex.f n = some (digit n) := by
  unfold spec_l1Hex.f digit
  by_cases c : n < 10
  · rw [if_pos c, if_pos c]
    refine congrArg some ?_
    unfold wrap64
    omega
  · rw [if_neg c, if_neg c]
    refine congrArg some ?_
    unfold wrap64
    omega
theorem specHex_l (s : ByteArray) (hs : s.size ≤ 10000) (n : Nat) : ∀ (k i : Nat), s.size = i + n → n < k → spec_HashText.l0 k s (hexL ((bytesOf s).take i)) (i : Int) = some (strOfNums (hexL (bytesOf s))) := by
  induction n with
  | zero =>
    intro k i h hk
    obtain ⟨k, rfl⟩ : ∃ q, k = q + 1 := ⟨k - 1, by omega⟩
    rw [spec_HashText.l0, if_neg (by omega), List.take_of_length_le (by rw [bytesOf_length]; omega)]
  | succ n ih =>
    intro k i h hk
    obtain ⟨k, rfl⟩ : ∃ q, k = q + 1 := ⟨k - 1, by omega⟩
    have hi : i < (bytesOf s).length := by rw [bytesOf_length]; omega
    have hb := bytesOf_8 s _ (List.getElem_mem hi)
    have hlen : (hexL ((bytesOf s).take i)).length = 2 * i := by rw [hexL_length, List.length_take]; omega
    rw [spec_HashText.l0, if_pos (by omega), if_pos (by omega), bt_nat hi]
    rw [show wrap64 (bytesOf s)[i] = (bytesOf s)[i] by unfold wrap64; omega]
    rw [show wrap64 (Int.tdiv (bytesOf s)[i] 16) = (bytesOf s)[i] / 16 by rw [Int.tdiv_eq_ediv_of_nonneg hb.1]; unfold wrap64; omega, show Int.tmod (bytesOf s)[i] 16 = (bytesOf s)[i] % 16 from Int.tmod_eq_emod_of_nonneg hb.1]
    refine bsx (spec_digit (by omega) (by omega)) (bsx (spec_digit (by omega) (by omega)) ?_)
    simp only [Option.bind_some]
    rw [if_pos (by rw [hlen]; simp; omega), step64x (by omega), ← hexL_take _ i hi]
    exact ih k (i + 1) (by omega) (by omega)
theorem spec_hashText {k : Nat} (hk : 100 ≤ k) (a b c d : Int) : spec_HashText.f k a b c d = some (strOfNums (hexL (be32 (a, b, c, d)))) := by
  unfold spec_HashText.f
  refine bsx (spec_hbytes (by omega) a b c d) ?_
  have h8 : Bytes8 (be32 (a, b, c, d)) := ((Bytes8.append (Bytes8.append (Bytes8.append (be8_8 _) (be8_8 _)) (be8_8 _)) (be8_8 _)))
  have hsz : (strOfNums (be32 (a, b, c, d))).size = 32 := by rw [str_size, be32_length]
  have := specHex_l (strOfNums (be32 (a, b, c, d))) (by omega) 32 k 0 (by omega) (by omega)
  rw [bytesOf_str _ h8] at this
  simpa [hexL] using this
theorem impl_hashText {k : Nat} (hk : 100 ≤ k) (a b c d : Int) : impl_HashText.f k a b c d = some (strOfNums (hexL (be32 (a, b, c, d)))) := by
  unfold impl_HashText.f
  refine bsx (impl_hbytes (by omega) a b c d) ?_
  have h8 : Bytes8 (be32 (a, b, c, d)) := ((Bytes8.append (Bytes8.append (Bytes8.append (be8_8 _) (be8_8 _)) (be8_8 _)) (be8_8 _)))
  rw [if_pos (by rw [str_size, be32_length]; omega), bytesOf_str _ h8]
  exact impl_hex _ h8 (by rw [be32_length]; omega) (by rw [be32_length]; omega)
theorem xor_nat (a b : Nat) (ha : a < 2 ^ 62) (hb : b < 2 ^ 62) : Go.bits .xor .i64 (a : Int) (b : Int) = ((a ^^^ b : Nat) : Int) := by
  have hx : a ^^^ b < 2 ^ 62 := Nat.xor_lt_two_pow ha hb
  have ha' : a % 2 ^ IntKind.i64.bits = a := Nat.mod_eq_of_lt (Nat.lt_of_lt_of_le ha (by decide))
  have hb' : b % 2 ^ IntKind.i64.bits = b := Nat.mod_eq_of_lt (Nat.lt_of_lt_of_le hb (by decide))
  simp only [Go.bits, BitVec.ofInt_natCast, BitVec.toNat_xor, BitVec.toNat_ofNat, ha', hb']
  generalize a ^^^ b = c at *
  rw [IntKind.wrap_i64]
  omega
theorem rd_8 {b : List Int} (h : Bytes8 b) (i : Int) : 0 ≤ rd b i ∧ rd b i ≤ 255 := by
  unfold rd
  by_cases hi : i.toNat < b.length
  · have : b.getD i.toNat 0 = b[i.toNat] := by simp [List.getD, List.getElem?_eq_getElem hi]
    rw [this]
    exact h _ (List.getElem_mem hi)
  · have : b.getD i.toNat 0 = 0 := by simp [List.getD, List.getElem?_eq_none (by omega : b.length ≤ i.toNat)]
    rw [this]
    omega
structure Rdr (b : List Int) (p m : Int) : Prop where
  bytes : Bytes8 b
  len : b.length ≤ 2000
  low : 0 ≤ p
  high : p ≤ m
theorem Rdr.more {b : List Int} {p m q n : Int} (h : Rdr b p m) (h0 : p ≤ q) (h1 : q - p ≤ n - m) : Rdr b q n := ⟨h.bytes, h.len, by have := h.low; omega, by have := h.high; omega⟩
theorem mix_ok {a c q e : Int} (ha : 0 ≤ a ∧ a ≤ 255) (hc : 0 ≤ c ∧ c ≤ 255) (hq : 0 ≤ q ∧ q ≤ 1000000000000) (he : 0 ≤ e ∧ e ≤ q) :
    ∃ v : Nat, Go.bits .xor .i64 (wrap64 ((wrap64 ((wrap64 ((wrap64 ((wrap64 a) * 131)) + (wrap64 ((wrap64 c) * 1117)))) + (wrap64 (q * 29)))) + (wrap64 ((wrap64 e) * 53)))) (wrap64 (Int.tdiv (wrap64 ((wrap64 ((wrap64 ((wrap64 ((wrap64 a) * 131)) + (wrap64 ((wrap64 c) * 1117)))) + (wrap64 (q * 29)))) + (wrap64 ((wrap64 e) * 53)))) 64)) = (v : Int) := by
  have hx : wrap64 ((wrap64 ((wrap64 ((wrap64 ((wrap64 a) * 131)) + (wrap64 ((wrap64 c) * 1117)))) + (wrap64 (q * 29)))) + (wrap64 ((wrap64 e) * 53))) = a * 131 + c * 1117 + q * 29 + e * 53 := by
    rw [w64 (x := a) (by omega) (by omega), w64 (x := c) (by omega) (by omega), w64 (x := e) (by omega) (by omega), w64 (x := a * 131) (by omega) (by omega), w64 (x := c * 1117) (by omega) (by omega),
      w64 (x := q * 29) (by omega) (by omega), w64 (x := e * 53) (by omega) (by omega), w64 (x := a * 131 + c * 1117) (by omega) (by omega), w64 (x := a * 131 + c * 1117 + q * 29) (by omega) (by omega), w64 (by omega) (by omega)]
  rw [hx]
  obtain ⟨x, hx2⟩ : ∃ x : Nat, a * 131 + c * 1117 + q * 29 + e * 53 = (x : Int) := ⟨(a * 131 + c * 1117 + q * 29 + e * 53).toNat, by omega⟩
  have hb : x < 2 ^ 62 := by omega
  rw [hx2, Int.tdiv_eq_ediv_of_nonneg (by omega), w64 (by omega) (by omega), show (x : Int) / 64 = ((x / 64 : Nat) : Int) by omega, xor_nat _ _ hb (by omega)]
  exact ⟨_, rfl⟩
theorem pick_ok {k : Nat} (hk : 1 ≤ k) {b : List Int} {p m : Int} (h : Rdr b p m) (hm : m ≤ 900000000000) (n : Int) : ∃ v, spec_l1Rd_pick.f k b p n = some (v, p + 1) ∧ 0 ≤ v ∧ (1 ≤ n → v < n) ∧ (n < 1 → v = 0) := by
  obtain ⟨k, rfl⟩ : ∃ m, k = m + 1 := ⟨k - 1, by omega⟩
  have h1 := h.low
  have h2 := h.high
  have h3 := h.len
  unfold spec_l1Rd_pick.f
  rw [show wrap64 (p + 1) = p + 1 by unfold wrap64; omega]
  by_cases hn : n < 1
  · rw [if_pos hn]
    simp only [spec_l1Rd_pick.j0, if_true]
    exact ⟨0, rfl, by omega, by omega, fun _ => rfl⟩
  · rw [if_neg hn]
    by_cases h0 : b.length = 0
    · rw [show ((b.length : Int) == 0) = true by simp [h0]]
      simp only [spec_l1Rd_pick.j0, if_true]
      exact ⟨0, rfl, by omega, by omega, fun _ => rfl⟩
    · rw [show ((b.length : Int) == 0) = false by rw [beq_eq_false_iff_ne]; omega]
      simp only [spec_l1Rd_pick.j0, Bool.false_eq_true, if_false]
      rw [show wrap64 (p + 1 - 1) = p by unfold wrap64; omega]
      by_cases hp : p < (b.length : Int)
      · have := rd_8 h.bytes p
        rw [if_pos hp, if_pos h1, if_neg (by omega), w64 (by omega) (by omega)]
        exact ⟨_, rfl, Int.tmod_nonneg _ (by omega), fun _ => Int.tmod_lt_of_pos _ (by omega), by omega⟩
      · have l0 : 0 < (b.length : Int) := by omega
        have t0 := Int.tmod_nonneg (b.length : Int) h1
        have t1 := Int.tmod_lt_of_pos p l0
        have q0 : wrap64 (wrap64 (p * 7) + 3) = p * 7 + 3 := by rw [w64 (x := p * 7) (by omega) (by omega), w64 (by omega) (by omega)]
        have t2 := Int.tmod_nonneg (b.length : Int) (show (0 : Int) ≤ p * 7 + 3 by omega)
        have t3 := Int.tmod_lt_of_pos (p * 7 + 3) l0
        have d0 : 0 ≤ p.tdiv (b.length : Int) := Int.tdiv_nonneg h1 (by omega)
        have d1 : p.tdiv (b.length : Int) ≤ p := by rw [Int.tdiv_eq_ediv_of_nonneg h1]; exact Int.ediv_le_self _ h1
        rw [if_neg hp, if_neg (by omega), if_pos t0, if_pos t1, q0, if_pos t2, if_pos t3, if_neg (by omega), show wrap64 (p.tdiv (b.length : Int)) = wrap64 (p.tdiv (b.length : Int)) from rfl]
        obtain ⟨v, hv⟩ := mix_ok (rd_8 h.bytes (p.tmod (b.length : Int))) (rd_8 h.bytes ((p * 7 + 3).tmod (b.length : Int))) ⟨h1, by omega⟩ ⟨d0, d1⟩
        rw [hv]
        exact ⟨_, rfl, Int.tmod_nonneg _ (by omega), fun _ => Int.tmod_lt_of_pos _ (by omega), by omega⟩
theorem text_l (j : Nat) : ∀ (k : Nat) (acc : List Int) (b : List Int) (p m : Int), j + 1 < k → Rdr b p m → acc.length + j ≤ 1000000 → m + j ≤ 800000000000 → ∃ s q, spec_l1Rd_text.l0 k acc (j : Int) b p = some (s, q) ∧ s.size = acc.length + j ∧ Rdr b q (m + j) ∧ p ≤ q := by
  induction j with
  | zero =>
    intro k acc b p m hk h ha hm
    obtain ⟨k, rfl⟩ : ∃ m, k = m + 1 := ⟨k - 1, by omega⟩
    simp only [spec_l1Rd_text.l0]
    rw [if_neg (by omega)]
    exact ⟨_, _, rfl, by rw [str_size]; omega, h.more (by omega) (by omega), by omega⟩
  | succ j ih =>
    intro k acc b p m hk h ha hm
    obtain ⟨k, rfl⟩ : ∃ m, k = m + 1 := ⟨k - 1, by omega⟩
    simp only [spec_l1Rd_text.l0]
    obtain ⟨v, hv, _⟩ := pick_ok (k := k) (by omega) h (by omega) 256
    rw [if_pos (by omega), hv]
    simp only [Option.bind_some]
    rw [if_pos (by omega), show wrap64 (((j + 1 : Nat) : Int) - 1) = (j : Int) by unfold wrap64; omega]
    obtain ⟨s, q, h1, h2, h3, h4⟩ := ih k (acc ++ [v % 256]) b (p + 1) (m + 1) (by omega) (h.more (by omega) (by omega)) (by simp; omega) (by omega)
    exact ⟨s, q, h1, by rw [h2]; simp; omega, h3.more (by omega) (by omega), by omega⟩
theorem text_ok {k : Nat} {n : Nat} (hn : n ≤ 100000) (hk : n + 2 < k) {b : List Int} {p m : Int} (h : Rdr b p m) (hm : m ≤ 600000000000) : ∃ s q, spec_l1Rd_text.f k b p (n : Int) = some (s, q) ∧ s.size ≤ n ∧ Rdr b q (m + n + 1) ∧ p ≤ q := by
  unfold spec_l1Rd_text.f
  rw [show wrap64 ((n : Int) + 1) = ((n + 1 : Nat) : Int) by unfold wrap64; omega]
  obtain ⟨v, hv, v0, v1, _⟩ := pick_ok (k := k) (by omega) h (by omega) ((n + 1 : Nat) : Int)
  rw [hv]
  simp only [Option.bind_some]
  obtain ⟨j, rfl⟩ : ∃ j : Nat, v = j := ⟨v.toNat, by omega⟩
  have := v1 (by omega)
  obtain ⟨s, q, h1, h2, h3, h4⟩ := text_l j k [] b (p + 1) (m + 1) (by omega) (h.more (by omega) (by omega)) (by simp; omega) (by omega)
  exact ⟨s, q, h1, by rw [h2]; simp; omega, h3.more (by omega) (by omega), by omega⟩
theorem open_ok (l : List Int) (h : Bytes8 l) : ∃ b, spec_l1Open.f l = some (b, 0) ∧ Rdr b 0 0 := by
  unfold spec_l1Open.f
  by_cases hl : (l.length : Int) > 2000
  · rw [if_pos hl, if_pos (by omega)]
    exact ⟨_, rfl, h.take 2000, by rw [List.length_take]; omega, by omega, by omega⟩
  · rw [if_neg hl]
    exact ⟨_, rfl, h, by omega, by omega, by omega⟩
theorem bits_range (o : BinOp) (x y : Int) : 0 ≤ Go.bits o .u64 x y ∧ Go.bits o .u64 x y < 18446744073709551616 := by
  unfold Go.bits
  simp only [IntKind.wrap_u64]
  omega
theorem word_l (j : Nat) : ∀ (k : Nat) (w : Int) (i : Nat) (b : List Int) (p m : Int), i + j = 8 → j + 1 < k → Rdr b p m → m + j ≤ 800000000000 → 0 ≤ w → w < 18446744073709551616 → ∃ v q, spec_l1Rd_word.l0 k w (i : Int) b p = some (v, q) ∧ 0 ≤ v ∧ v < 18446744073709551616 ∧ Rdr b q (m + j) ∧ p ≤ q := by
  induction j with
  | zero =>
    intro k w i b p m hi hk h hm w0 w1
    obtain ⟨k, rfl⟩ : ∃ m, k = m + 1 := ⟨k - 1, by omega⟩
    simp only [spec_l1Rd_word.l0]
    rw [if_neg (by omega)]
    exact ⟨w, p, rfl, w0, w1, h.more (by omega) (by omega), by omega⟩
  | succ j ih =>
    intro k w i b p m hi hk h hm w0 w1
    obtain ⟨k, rfl⟩ : ∃ m, k = m + 1 := ⟨k - 1, by omega⟩
    simp only [spec_l1Rd_word.l0]
    obtain ⟨v, hv, _⟩ := pick_ok (k := k) (by omega) h (by omega) 256
    rw [if_pos (by omega), hv]
    simp only [Option.bind_some]
    rw [show wrap64 ((i : Int) + 1) = ((i + 1 : Nat) : Int) by unfold wrap64; omega]
    have hr := bits_range .or (IntKind.u64.wrap (w * 256)) (IntKind.u64.wrap v)
    obtain ⟨v', q, h1, h2, h3, h4, h5⟩ := ih k _ (i + 1) b (p + 1) (m + 1) (by omega) (by omega) (h.more (by omega) (by omega)) (by omega) hr.1 hr.2
    exact ⟨v', q, h1, h2, h3, h4.more (by omega) (by omega), by omega⟩
theorem word_ok {k : Nat} (hk : 11 ≤ k) {b : List Int} {p m : Int} (h : Rdr b p m) (hm : m ≤ 700000000000) : ∃ v q, spec_l1Rd_word.f k b p = some (v, q) ∧ 0 ≤ v ∧ v < 18446744073709551616 ∧ Rdr b q (m + 9) ∧ p ≤ q := by
  unfold spec_l1Rd_word.f
  obtain ⟨v, hv, v0, v1, _⟩ := pick_ok (k := k) (by omega) h (by omega) 6
  rw [hv]
  simp only [Option.bind_some]
  have h' : Rdr b (p + 1) (m + 1) := h.more (by omega) (by omega)
  obtain ⟨x, hx, x0, x1, _⟩ := pick_ok (k := k) (by omega) h' (by omega) 3
  by_cases c0 : v = 0
  · rw [if_pos c0, hx]
    exact ⟨_, _, rfl, by rw [IntKind.wrap_u64]; omega, by rw [IntKind.wrap_u64]; omega, h'.more (by omega) (by omega), by omega⟩
  · rw [if_neg c0]
    by_cases c1 : v = 1
    · rw [if_pos c1, hx]
      have hr := bits_range .xor 18446744073709551615 (IntKind.u64.wrap x)
      exact ⟨_, _, rfl, hr.1, hr.2, h'.more (by omega) (by omega), by omega⟩
    · rw [if_neg c1]
      obtain ⟨v', q, h1, h2, h3, h4, h5⟩ := word_l 8 k 0 0 b (p + 1) (m + 1) (by omega) (by omega) h' (by omega) (by omega) (by omega)
      exact ⟨v', q, h1, h2, h3, h4.more (by omega) (by omega), by omega⟩
def U4 (d : D4) : Prop := (0 ≤ d.1 ∧ d.1 < 18446744073709551616) ∧ (0 ≤ d.2.1 ∧ d.2.1 < 18446744073709551616) ∧ (0 ≤ d.2.2.1 ∧ d.2.2.1 < 18446744073709551616) ∧ (0 ≤ d.2.2.2 ∧ d.2.2.2 < 18446744073709551616)
theorem digest_ok {k : Nat} (hk : 11 ≤ k) {b : List Int} {p m : Int} (h : Rdr b p m) (hm : m ≤ 600000000000) : ∃ (d : D4) (q : Int), spec_l1Rd_digest.f k b p = some (d.1, d.2.1, d.2.2.1, d.2.2.2, q) ∧ U4 d ∧ Rdr b q (m + 36) ∧ p ≤ q := by
  unfold spec_l1Rd_digest.f
  obtain ⟨v1, q1, e1, a1, b1, r1, l1⟩ := word_ok hk h (by omega)
  rw [e1]
  simp only [Option.bind_some]
  obtain ⟨v2, q2, e2, a2, b2, r2, l2⟩ := word_ok hk r1 (by omega)
  rw [e2]
  simp only [Option.bind_some]
  obtain ⟨v3, q3, e3, a3, b3, r3, l3⟩ := word_ok hk r2 (by omega)
  rw [e3]
  simp only [Option.bind_some]
  obtain ⟨v4, q4, e4, a4, b4, r4, l4⟩ := word_ok hk r3 (by omega)
  rw [e4]
  exact ⟨(v1, v2, v3, v4), q4, rfl, ⟨⟨a1, b1⟩, ⟨a2, b2⟩, ⟨a3, b3⟩, a4, b4⟩, r4.more (by omega) (by omega), by omega⟩
theorem be32_8 (d : D4) : Bytes8 (be32 d) := (((be8_8 _).append (be8_8 _)).append (be8_8 _)).append (be8_8 _)
theorem w8_be8 {v : Int} (h0 : 0 ≤ v) (h1 : v < 18446744073709551616) (r : List Int) : w8 (be8 v ++ r) = v := by
  simp only [w8, be8, List.cons_append, List.nil_append, List.take_succ_cons, List.take_zero, List.foldl_cons, List.foldl_nil]
  omega
theorem be8_w8 {l : List Int} (h : 8 ≤ l.length) (hb : Bytes8 l) : be8 (w8 l) = l.take 8 := by
  obtain ⟨a, b, c, d, e, f, g, i, r, rfl⟩ := eight h
  have h0 := hb a (by simp)
  have h1 := hb b (by simp)
  have h2 := hb c (by simp)
  have h3 := hb d (by simp)
  have h4 := hb e (by simp)
  have h5 := hb f (by simp)
  have h6 := hb g (by simp)
  have h7 := hb i (by simp)
  simp only [w8, be8, List.take_succ_cons, List.take_zero, List.foldl_cons, List.foldl_nil, List.cons.injEq, and_true]
  refine ⟨by omega, by omega, by omega, by omega, by omega, by omega, by omega, by omega⟩
theorem back_digest {d : D4} (h : U4 d) : impl_HashBack.f (strOfNums (be32 d)) = some (d.1, d.2.1, d.2.2.1, d.2.2.2, true) := by
  obtain ⟨⟨a0, a1⟩, ⟨b0, b1⟩, ⟨c0, c1⟩, ⟨e0, e1⟩⟩ := h
  unfold impl_HashBack.f
  rw [if_pos (by rw [str_size, be32_length]; rfl), bytesOf_str _ (be32_8 d), digest_is (be32_length d) (be32_8 d)]
  rw [show be32 d = be8 d.1 ++ (be8 d.2.1 ++ (be8 d.2.2.1 ++ be8 d.2.2.2)) by simp [be32], w8_be8 a0 a1,
    show (be8 d.1 ++ (be8 d.2.1 ++ (be8 d.2.2.1 ++ be8 d.2.2.2))).drop 8 = be8 d.2.1 ++ (be8 d.2.2.1 ++ be8 d.2.2.2) from rfl, w8_be8 b0 b1,
    show (be8 d.1 ++ (be8 d.2.1 ++ (be8 d.2.2.1 ++ be8 d.2.2.2))).drop 16 = be8 d.2.2.1 ++ be8 d.2.2.2 from rfl, w8_be8 c0 c1,
    show (be8 d.1 ++ (be8 d.2.1 ++ (be8 d.2.2.1 ++ be8 d.2.2.2))).drop 24 = be8 d.2.2.2 ++ [] from rfl, w8_be8 e0 e1]
  rfl
theorem back_text {t : ByteArray} (h : t.size = 32) : ∃ d : D4, impl_HashBack.f t = some (d.1, d.2.1, d.2.2.1, d.2.2.2, true) ∧ be32 d = bytesOf t := by
  have hl : (bytesOf t).length = 32 := by rw [bytesOf_length]; exact h
  have h8 := bytesOf_8 t
  refine ⟨(w8 (bytesOf t), w8 ((bytesOf t).drop 8), w8 ((bytesOf t).drop 16), w8 ((bytesOf t).drop 24)), ?_, ?_⟩
  · unfold impl_HashBack.f
    rw [if_pos (by omega), digest_is hl h8]
    rfl
  · generalize bytesOf t = l at hl h8
    unfold be32
    rw [be8_w8 (by omega) h8, be8_w8 (by rw [List.length_drop]; omega) (h8.drop _), be8_w8 (by rw [List.length_drop]; omega) (h8.drop _), be8_w8 (by rw [List.length_drop]; omega) (h8.drop _), ← List.take_add, ← List.take_add, ← List.take_add]
    exact List.take_of_length_le (by omega)
theorem back_not {t : ByteArray} (h : ¬ (t.size : Int) = 32) : impl_HashBack.f t = some (0, 0, 0, 0, false) := by unfold impl_HashBack.f; rw [if_neg h]
theorem digit_fin : ∀ n : Fin 16, dig (digit (n.val : Int)) = true ∧ hv (digit (n.val : Int)) = (n.val : Int) ∧ 0 ≤ digit (n.val : Int) ∧ digit (n.val : Int) ≤ 255 := by decide +kernel
theorem digit_is {n : Int} (h0 : 0 ≤ n) (h1 : n ≤ 15) : dig (digit n) = true ∧ hv (digit n) = n ∧ 0 ≤ digit n ∧ digit n ≤ 255 := by
  have := digit_fin ⟨n.toNat, by omega⟩
  simp only [show ((n.toNat : Nat) : Int) = n by omega] at this
  exact this
theorem digit_hv_fin : ∀ c : Fin 256, dig (c.val : Int) = true → digit (hv (c.val : Int)) = (c.val : Int) := by decide +kernel
theorem digit_hv {c : Int} (h0 : 0 ≤ c) (h1 : c ≤ 255) (h : dig c = true) : digit (hv c) = c := by
  have := digit_hv_fin ⟨c.toNat, by omega⟩
  simp only [show ((c.toNat : Nat) : Int) = c by omega] at this
  exact this h
theorem hexL_all (l : List Int) (h : Bytes8 l) : Bytes8 (hexL l) ∧ (hexL l).all dig = true ∧ prs (hexL l) = l := by
  induction l with
  | nil => exact ⟨fun x hx => by simp [hexL] at hx, rfl, rfl⟩
  | cons b l ih =>
    have hb := h b List.mem_cons_self
    obtain ⟨i1, i2, i3⟩ := ih (fun x hx => h x (List.mem_cons_of_mem _ hx))
    obtain ⟨a1, a2, a3, a4⟩ := digit_is (n := b / 16) (by omega) (by omega)
    obtain ⟨c1, c2, c3, c4⟩ := digit_is (n := b % 16) (by omega) (by omega)
    refine ⟨fun x hx => ?_, ?_, ?_⟩
    · simp only [hexL, List.mem_cons] at hx
      rcases hx with rfl | rfl | hx
      · exact ⟨a3, a4⟩
      · exact ⟨c3, c4⟩
      · exact i1 x hx
    · simp only [hexL, List.all_cons, a1, c1, i2, Bool.and_self]
    · simp only [hexL, prs, a2, c2, i3]
      exact congrArg (· :: l) (by omega)
theorem prs_back : ∀ l : List Int, Bytes8 l → l.all dig = true → l.length % 2 = 0 → hexL (prs l) = l ∧ Bytes8 (prs l)
  | [], _, _, _ => ⟨rfl, fun x hx => by simp [prs] at hx⟩
  | [_], _, _, h => by simp at h
  | a :: b :: l, h8, hd, he => by
    have ha := h8 a (by simp)
    have hb := h8 b (by simp)
    rw [List.all_cons, List.all_cons, Bool.and_eq_true, Bool.and_eq_true] at hd
    obtain ⟨i1, i2⟩ := prs_back l (fun x hx => h8 x (by simp [hx])) hd.2.2 (by simp at he; omega)
    have va := hv_ge hd.1
    have vb := hv_ge hd.2.1
    have wa := @hv_le a
    have wb := @hv_le b
    refine ⟨?_, fun x hx => ?_⟩
    · simp only [prs, hexL, i1]
      rw [show (16 * hv a + hv b) / 16 = hv a by omega, show (16 * hv a + hv b) % 16 = hv b by omega, digit_hv ha.1 ha.2 hd.1, digit_hv hb.1 hb.2 hd.2.1]
    · simp only [prs, List.mem_cons] at hx
      rcases hx with rfl | hx
      · omega
      · exact i2 x hx
theorem read_val {k : Nat} (hk : 4000010 < k) (s : ByteArray) (hs : s.size ≤ 2000000) : impl_HashRead.f k s = if s.size = 64 ∧ (bytesOf s).all dig = true then impl_HashBack.f (strOfNums (prs (bytesOf s))) else some (0, 0, 0, 0, false) := by
  have hR : impl_hexRead.f k s = some (if (bytesOf s).all dig = true then (strOfNums (prs (bytesOf s)), (s.size : Int) % 2 == 0) else ((⟨#[]⟩ : ByteArray), false)) := by
    unfold impl_hexRead.f
    exact hr_l s hs s.size k 0 (by omega) (by omega) (by rw [List.drop_zero])
  have hz : (strOfNums (prs (bytesOf s))).size = s.size / 2 := by rw [strOfNums_size, prs_length, bytesOf_length]
  have eta : ∀ t : ByteArray, ((impl_HashBack.f t).bind fun bt165 => (some (bt165.1, bt165.2.1, bt165.2.2.1, bt165.2.2.2.1, bt165.2.2.2.2))) = impl_HashBack.f t := by
    intro t
    cases impl_HashBack.f t <;> rfl
  unfold impl_HashRead.f
  by_cases a : (bytesOf s).all dig = true
  · rw [if_pos a] at hR
    refine bsw hR ?_
    by_cases c : s.size = 64
    · rw [if_pos (⟨c, a⟩ : s.size = 64 ∧ _), if_pos (show ((s.size : Int) % 2 == 0) = true by rw [c]; rfl), eta]
    · rw [if_neg (show ¬ (s.size = 64 ∧ _) from fun h => c h.1)]
      by_cases e : ((s.size : Int) % 2 == 0) = true
      · have e2 := eq_of_beq e
        rw [if_pos e, eta, back_not (by rw [hz]; omega)]
      · rw [if_neg e]
  · rw [if_neg a] at hR
    refine bsw hR ?_
    rw [if_neg (by simp), if_neg (show ¬ (s.size = 64 ∧ _) from fun h => a h.2)]
theorem read_digits {k : Nat} (hk : 4000010 < k) {d : D4} (h : U4 d) : impl_HashRead.f k (strOfNums (hexL (be32 d))) = some (d.1, d.2.1, d.2.2.1, d.2.2.2, true) := by
  obtain ⟨h1, h2, h3⟩ := hexL_all (be32 d) (be32_8 d)
  have hz : (strOfNums (hexL (be32 d))).size = 64 := by rw [str_size, hexL_length, be32_length]
  rw [read_val hk _ (by omega), bytesOf_str _ h1, if_pos (⟨hz, h2⟩ : _ ∧ _), h3]
  exact back_digest h
theorem ext_le (x : ByteArray) (a b : Nat) : (x.extract a b).size ≤ x.size := by rw [ByteArray.size_extract]; omega
theorem draw_bytes (l : List Int) (h : Bytes8 l) {k : Nat} (hk : 100 ≤ k) : ∃ d : D4, U4 d ∧ spec_DrawHashBytes.f k l = some (d.1, d.2.1, d.2.2.1, d.2.2.2) := by
  unfold spec_DrawHashBytes.f
  obtain ⟨b, hb, r0⟩ := open_ok l h
  obtain ⟨d, q, hd, hu, r1, _⟩ := digest_ok (k := k) (by omega) r0 (by omega)
  exact ⟨d, hu, bsw hb (bsw hd rfl)⟩
theorem draw_back (l : List Int) (h : Bytes8 l) {k : Nat} (hk : 100 ≤ k) : ∃ t, spec_DrawHashBack.f k l = some t ∧ t.size ≤ 1000000 := by
  unfold spec_DrawHashBack.f
  obtain ⟨b, hb, r0⟩ := open_ok l h
  obtain ⟨d, q, hd, hu, r1, _⟩ := digest_ok (k := k) (by omega) r0 (by omega)
  have hT := spec_hbytes (k := k) (by omega) d.1 d.2.1 d.2.2.1 d.2.2.2
  have hz : (strOfNums (be32 (d.1, d.2.1, d.2.2.1, d.2.2.2))).size = 32 := by rw [str_size, be32_length]
  generalize strOfNums (be32 (d.1, d.2.1, d.2.2.1, d.2.2.2)) = T at hT hz
  obtain ⟨v, hv1, v0, vl, _⟩ := pick_ok (k := k) (by omega) r1 (by omega) 4
  have r2 := r1.more (q := q + 1) (n := 0 + 36 + 1) (by omega) (by omega)
  by_cases c : v = 0
  · obtain ⟨p, hp1, p0, pl, _⟩ := pick_ok (k := k) (by omega) r2 (by omega) 2
    have r3 := r2.more (q := q + 1 + 1) (n := 0 + 36 + 1 + 1) (by omega) (by omega)
    obtain ⟨s, q2, hs1, hs2, _, _⟩ := text_ok (k := k) (n := 1) (by omega) (by omega) r3 (by omega)
    have hx := ext_le T p.toNat T.size
    refine ⟨T.extract p.toNat T.size ++ s, bsw hb (bsw hd (bsw hT (bsw hv1 ?_))), ?_⟩
    · rw [if_pos c]
      refine bsw hp1 ?_
      rw [if_pos (by omega), if_pos (by have := pl (by omega); omega)]
      refine bsw hs1 ?_
      rw [if_pos (by dsimp only; omega)]
    · rw [ByteArray.size_append]; omega
  · exact ⟨T, bsw hb (bsw hd (bsw hT (bsw hv1 (by rw [if_neg c])))), by omega⟩
theorem draw_read (l : List Int) (h : Bytes8 l) {k : Nat} (hk : 200 ≤ k) : ∃ t, spec_DrawHashRead.f k l = some t ∧ t.size ≤ 1000000 := by
  unfold spec_DrawHashRead.f
  obtain ⟨b, hb, r0⟩ := open_ok l h
  obtain ⟨d, q, hd, hu, r1, _⟩ := digest_ok (k := k) (by omega) r0 (by omega)
  have hT := spec_hashText (k := k) (by omega) d.1 d.2.1 d.2.2.1 d.2.2.2
  have hz : (strOfNums (hexL (be32 (d.1, d.2.1, d.2.2.1, d.2.2.2)))).size = 64 := by rw [str_size, hexL_length, be32_length]
  generalize strOfNums (hexL (be32 (d.1, d.2.1, d.2.2.1, d.2.2.2))) = T at hT hz
  obtain ⟨v, hv1, v0, vl, _⟩ := pick_ok (k := k) (by omega) r1 (by omega) 6
  have r2 := r1.more (q := q + 1) (n := 0 + 36 + 1) (by omega) (by omega)
  obtain ⟨p, hp1, p0, pl, _⟩ := pick_ok (k := k) (by omega) r2 (by omega) 64
  have p2 := pl (by omega)
  have r3 := r2.more (q := q + 1 + 1) (n := 0 + 36 + 1 + 1) (by omega) (by omega)
  have x1 := ext_le T 0 p.toNat
  have x2 := ext_le T (p + 1).toNat T.size
  have hw : wrap64 (p + 1) = p + 1 := w64 (by omega) (by omega)
  by_cases c : v = 0
  · obtain ⟨s, q2, hs1, hs2, _, _⟩ := text_ok (k := k) (n := 1) (by omega) (by omega) r3 (by omega)
    refine ⟨(T.extract 0 p.toNat ++ s) ++ T.extract (p + 1).toNat T.size, bsw hb (bsw hd (bsw hT (bsw hv1 ?_))), ?_⟩
    · rw [if_pos c]
      refine bsw hp1 ?_
      rw [if_pos (by omega), if_pos (by dsimp only; omega)]
      refine bsw hs1 ?_
      rw [if_pos (by dsimp only; omega), hw, if_pos (by omega), if_pos (by omega), if_pos (by rw [ByteArray.size_append]; dsimp only; omega)]
    · rw [ByteArray.size_append, ByteArray.size_append]; omega
  · by_cases c1 : v = 1
    · obtain ⟨z, hz1, z0, zl, _⟩ := pick_ok (k := k) (by omega) r3 (by omega) 7
      have z2 := zl (by omega)
      have hs := str_size [bt (⟨#[65, 70, 103, 71, 58, 47, 32]⟩ : ByteArray) z]
      rw [List.length_singleton] at hs
      refine ⟨(T.extract 0 p.toNat ++ strOfNums [bt (⟨#[65, 70, 103, 71, 58, 47, 32]⟩ : ByteArray) z]) ++ T.extract (p + 1).toNat T.size, bsw hb (bsw hd (bsw hT (bsw hv1 ?_))), ?_⟩
      · rw [if_neg c, if_pos c1]
        refine bsw hp1 ?_
        rw [if_pos (by omega), if_pos (by dsimp only; omega)]
        refine bsw hz1 ?_
        rw [if_pos (by omega), if_pos (by omega)]
        refine bsw rfl ?_
        dsimp only
        rw [if_pos (by omega), hw, if_pos (by omega), if_pos (by omega), if_pos (by rw [ByteArray.size_append]; omega)]
      · rw [ByteArray.size_append, ByteArray.size_append]; omega
    · exact ⟨T, bsw hb (bsw hd (bsw hT (bsw hv1 (by rw [if_neg c, if_neg c1])))), by omega⟩
end Go.Proofs.YtflcbanemolkfaaDoor.Q
