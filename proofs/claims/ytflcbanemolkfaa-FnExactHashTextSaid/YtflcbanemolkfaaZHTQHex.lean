/- Bytes in digits of sixteen: the library's Encode and the reference's come to one list. Condition: fewer than 10000 bytes. -/
import Derived.Test.YtflcbanemolkfaaZHTQBytes8
import Derived.Test.YtflcbanemolkfaaZHTHHashText
import Derived.Test.YtflcbanemolkfaaZHTFSpecHashText
namespace Go.Proofs.Ytflcbanemolkfaa.Q
open Go.RowKit Go.Proofs.Ytflcbanemolkfaa.B Go.Proofs.YtflcbanemolkfaaW.PrintWords Go.Proofs.YtflcbanemolkfaaW.PrintLast Go.Proofs.YtflcbanemolkfaaW.PrintMore
set_option linter.unusedVariables false
set_option linter.unusedSimpArgs false
theorem bsx {α β : Type} {x : Option α} {v : α} {F : α → Option β} {r : Option β} (h : x = some v) (k : F v = r) : x.bind F = r := by rw [h]; exact k
theorem step64x {i : Nat} (h : i < 4611686018427387904) : wrap64 ((i : Int) + 1) = ((i + 1 : Nat) : Int) := by unfold wrap64; omega
def digit (n : Int) : Int := if n < 10 then 48 + n else 87 + n
def hexL : List Int → List Int
  | [] => []
  | b :: l => digit (b / 16) :: digit (b % 16) :: hexL l
theorem hexL_length (l : List Int) : (hexL l).length = 2 * l.length := by
  induction l with
  | nil => rfl
  | cons b l ih => simp only [hexL, List.length_cons, ih]; omega
theorem digits_table : ∀ n : Fin 16, bt (⟨#[48, 49, 50, 51, 52, 53, 54, 55, 56, 57, 97, 98, 99, 100, 101, 102]⟩ : ByteArray) ((n.val : Nat) : Int) = digit ((n.val : Nat) : Int) := by decide +kernel
theorem digit_at {n : Int} (h0 : 0 ≤ n) (h1 : n < 16) : bt (⟨#[48, 49, 50, 51, 52, 53, 54, 55, 56, 57, 97, 98, 99, 100, 101, 102]⟩ : ByteArray) n = digit n := by
  have := digits_table ⟨n.toNat, by omega⟩
  simp only at this
  rw [show ((n.toNat : Nat) : Int) = n by omega] at this
  exact this
theorem and15 : ∀ n : Fin 256, Go.bits .and .u8 ((n.val : Nat) : Int) 15 = ((n.val % 16 : Nat) : Int) := by decide +kernel
theorem and15_at {b : Int} (h0 : 0 ≤ b) (h1 : b ≤ 255) : Go.bits .and .u8 b 15 = b % 16 := by
  have := and15 ⟨b.toNat, by omega⟩
  simp only at this
  rw [show ((b.toNat : Nat) : Int) = b by omega] at this
  rw [this]
  omega
theorem hexL_take (l : List Int) (i : Nat) (h : i < l.length) : hexL (l.take (i + 1)) = hexL (l.take i) ++ [digit (l[i] / 16), digit (l[i] % 16)] := by
  induction l generalizing i with
  | nil => exact absurd h (by simp)
  | cons b l ih =>
    cases i with
    | zero => simp [hexL]
    | succ i =>
      simp only [List.take_succ_cons, hexL, List.getElem_cons_succ, List.cons_append]
      rw [ih i (by simpa using h)]
theorem encode_l (l : List Int) (h8 : Bytes8 l) (hl : l.length ≤ 10000) (n : Nat) : ∀ (k i : Nat), l.length = i + n → n < k →
    hex_Encode.l0 k (hexL (l.take i) ++ List.replicate (2 * n) 0) l ((2 * i : Nat) : Int) l (l.length : Int) (i : Int) = some (wrap64 ((l.length : Int) * 2), hexL l) := by
  induction n with
  | zero =>
    intro k i h hk
    obtain ⟨k, rfl⟩ : ∃ q, k = q + 1 := ⟨k - 1, by omega⟩
    rw [hex_Encode.l0, if_neg (by omega), List.take_of_length_le (by omega)]
    simp
  | succ n ih =>
    intro k i h hk
    obtain ⟨k, rfl⟩ : ∃ q, k = q + 1 := ⟨k - 1, by omega⟩
    have hi : i < l.length := by omega
    have hb := h8 _ (List.getElem_mem hi)
    have hlen : (hexL (l.take i)).length = 2 * i := by rw [hexL_length, List.length_take]; omega
    have d0 : 0 ≤ l[i] / 16 := by omega
    have d1 : l[i] / 16 < 16 := by omega
    have m0 : 0 ≤ l[i] % 16 := by omega
    have m1 : l[i] % 16 < 16 := by omega
    rw [hex_Encode.l0, if_pos (by omega), if_pos (by omega), if_pos (by omega), rd_nat hi, and15_at hb.1 hb.2, if_pos d0, if_pos d1, if_pos (by omega), if_pos (by simp; omega), if_pos m0, if_pos m1]
    rw [show wrap64 (((2 * i : Nat) : Int) + 1) = ((2 * i + 1 : Nat) : Int) by unfold wrap64; omega, show wrap64 (((2 * i : Nat) : Int) + 2) = ((2 * (i + 1) : Nat) : Int) by unfold wrap64; omega, step64x (by omega), if_pos (by omega), if_pos (by simp; omega), digit_at d0 d1, digit_at m0 m1, Int.toNat_natCast, Int.toNat_natCast]
    have e : ((hexL (l.take i) ++ List.replicate (2 * (n + 1)) 0).set (2 * i) (digit (l[i] / 16))).set (2 * i + 1) (digit (l[i] % 16)) = hexL (l.take (i + 1)) ++ List.replicate (2 * n) 0 := by
      rw [hexL_take l i hi, show 2 * (n + 1) = (2 * n + 1) + 1 by omega, List.replicate_succ, List.replicate_succ, List.set_append_right _ _ (by omega), hlen, Nat.sub_self, List.set_cons_zero, List.set_append_right _ _ (by omega), hlen, Nat.add_sub_cancel_left, List.set_cons_succ, List.set_cons_zero, List.append_assoc]
      rfl
    rw [e]
    exact ih k (i + 1) (by omega) (by omega)
theorem impl_hex {k : Nat} (l : List Int) (h8 : Bytes8 l) (hl : l.length ≤ 10000) (hk : l.length < k) : hex_EncodeToString.f k l = some (strOfNums (hexL l)) := by
  have e1 : hex_EncodedLen.f (l.length : Int) = some ((2 * l.length : Nat) : Int) := by
    unfold hex_EncodedLen.f
    refine congrArg some ?_
    unfold wrap64
    omega
  have e2 := encode_l l h8 hl l.length k 0 (by omega) hk
  rw [List.take_zero] at e2
  have e3 : hex_Encode.f k (List.replicate (2 * l.length) 0) l = some (wrap64 ((l.length : Int) * 2), hexL l) := e2
  unfold hex_EncodeToString.f
  refine bsx e1 ?_
  have hle : 2 * l.length ≤ 281474976710656 := by omega
  rw [if_pos (Int.natCast_nonneg _), Int.toNat_natCast, if_pos hle]
  exact bsx e3 rfl
theorem spec_digit {n : Int} (h0 : 0 ≤ n) (h1 : n < 16) : spec_l1Hex.f n = some (digit n) := by
  unfold spec_l1Hex.f digit
  by_cases c : n < 10
  · rw [if_pos c, if_pos c]
    refine congrArg some ?_
    unfold wrap64
    omega
  · rw [if_neg c, if_neg c]
    refine congrArg some ?_
    unfold wrap64
    omega
theorem specHex_l (s : ByteArray) (hs : s.size ≤ 10000) (n : Nat) : ∀ (k i : Nat), s.size = i + n → n < k → spec_HashText.l0 k s (hexL ((bytesOf s).take i)) (i : Int) = some (strOfNums (hexL (bytesOf s))) := by
  induction n with
  | zero =>
    intro k i h hk
    obtain ⟨k, rfl⟩ : ∃ q, k = q + 1 := ⟨k - 1, by omega⟩
    rw [spec_HashText.l0, if_neg (by omega), List.take_of_length_le (by rw [bytesOf_length]; omega)]
  | succ n ih =>
    intro k i h hk
    obtain ⟨k, rfl⟩ : ∃ q, k = q + 1 := ⟨k - 1, by omega⟩
    have hi : i < (bytesOf s).length := by rw [bytesOf_length]; omega
    have hb := bytesOf_8 s _ (List.getElem_mem hi)
    have hlen : (hexL ((bytesOf s).take i)).length = 2 * i := by rw [hexL_length, List.length_take]; omega
    rw [spec_HashText.l0, if_pos (by omega), if_pos (by omega), bt_nat hi]
    rw [show wrap64 (bytesOf s)[i] = (bytesOf s)[i] by unfold wrap64; omega]
    rw [show wrap64 (Int.tdiv (bytesOf s)[i] 16) = (bytesOf s)[i] / 16 by rw [Int.tdiv_eq_ediv_of_nonneg hb.1]; unfold wrap64; omega, show Int.tmod (bytesOf s)[i] 16 = (bytesOf s)[i] % 16 from Int.tmod_eq_emod_of_nonneg hb.1]
    refine bsx (spec_digit (by omega) (by omega)) (bsx (spec_digit (by omega) (by omega)) ?_)
    simp only [Option.bind_some]
    rw [if_pos (by rw [hlen]; simp; omega), step64x (by omega), ← hexL_take _ i hi]
    exact ih k (i + 1) (by omega) (by omega)
theorem spec_hashText {k : Nat} (hk : 100 ≤ k) (a b c d : Int) : spec_HashText.f k a b c d = some (strOfNums (hexL (be32 (a, b, c, d)))) := by
  unfold spec_HashText.f
  refine bsx (spec_hbytes (by omega) a b c d) ?_
  have h8 : Bytes8 (be32 (a, b, c, d)) := ((Bytes8.append (Bytes8.append (Bytes8.append (be8_8 _) (be8_8 _)) (be8_8 _)) (be8_8 _)))
  have hsz : (strOfNums (be32 (a, b, c, d))).size = 32 := by rw [str_size, be32_length]
  have := specHex_l (strOfNums (be32 (a, b, c, d))) (by omega) 32 k 0 (by omega) (by omega)
  rw [bytesOf_str _ h8] at this
  simpa [hexL] using this
theorem impl_hashText {k : Nat} (hk : 100 ≤ k) (a b c d : Int) : impl_HashText.f k a b c d = some (strOfNums (hexL (be32 (a, b, c, d)))) := by
  unfold impl_HashText.f
  refine bsx (impl_hbytes (by omega) a b c d) ?_
  have h8 : Bytes8 (be32 (a, b, c, d)) := ((Bytes8.append (Bytes8.append (Bytes8.append (be8_8 _) (be8_8 _)) (be8_8 _)) (be8_8 _)))
  rw [if_pos (by rw [str_size, be32_length]; omega), bytesOf_str _ h8]
  exact impl_hex _ h8 (by rw [be32_length]; omega) (by rw [be32_length]; omega)
end Go.Proofs.Ytflcbanemolkfaa.Q
