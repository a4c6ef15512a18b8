/- Texts of 64 digits: what the program and the reference read out of them. Condition: texts of at most 2^20 bytes. -/
import Derived.Lib.EndianBits
import Derived.Test.YtflcbanemolkfaaDoorZHFHHashBack
import Derived.Test.YtflcbanemolkfaaDoorZHFFImplHashRead
import Derived.Test.YtflcbanemolkfaaDoorZHFFSpecHashRead
import Derived.Test.YtflcbanemolkfaaDoorZHFGSplit1
namespace Go.Proofs.YtflcbanemolkfaaDoor.Q
open Go.RowKit Go.Proofs.YtflcbanemolkfaaDoor.B Go.Proofs.YtflcbanemolkfaaDoorW.PrintWords Go.Proofs.YtflcbanemolkfaaDoorW.PrintLast Go.Proofs.YtflcbanemolkfaaDoorW.PrintMore
set_option linter.unusedVariables false
set_option linter.unusedSimpArgs false
theorem w64 {x : Int} (h0 : -9223372036854775808 ≤ x) (h1 : x ≤ 9223372036854775807) : wrap64 x = x := by unfold wrap64; omega
theorem impl_in {a lo hi : Int} : impl_in.f a lo hi = some (decide (lo ≤ a ∧ a ≤ hi)) := by
  unfold impl_in.f
  by_cases h : a ≥ lo
  · rw [if_pos h]; simp [h]
  · rw [if_neg h]; simp [h]
theorem bsw {α β : Type} {x : Option α} {v : α} {F : α → Option β} {r : Option β} (h : x = some v) (k : F v = r) : x.bind F = r := by rw [h]; exact k
def Bytes8 (l : List Int) : Prop := ∀ x ∈ l, 0 ≤ x ∧ x ≤ 255
theorem bytesOf_8 (s : ByteArray) : Bytes8 (bytesOf s) := by
  intro x hx
  simp only [bytesOf, List.mem_map] at hx
  obtain ⟨b, _, rfl⟩ := hx
  have := b.toNat_lt
  omega
theorem bytesOf_str (l : List Int) (h : Bytes8 l) : bytesOf (strOfNums l) = l := by
  simp only [bytesOf, strOfNums_data, List.map_map]
  conv => rhs; rw [← List.map_id l]
  apply List.map_congr_left
  intro x hx
  have := h x hx
  simp only [Function.comp, id, UInt8.toNat_ofNat']
  omega
theorem str_bytesOf (s : ByteArray) : strOfNums (bytesOf s) = s := by
  apply ByteArray.ext
  simp [strOfNums, bytesOf, Function.comp_def]
theorem Bytes8.append {a b : List Int} (ha : Bytes8 a) (hb : Bytes8 b) : Bytes8 (a ++ b) := fun x hx => (List.mem_append.1 hx).elim (ha x) (hb x)
theorem Bytes8.drop {a : List Int} (ha : Bytes8 a) (n : Nat) : Bytes8 (a.drop n) := fun x hx => ha x (List.mem_of_mem_drop hx)
theorem Bytes8.take {a : List Int} (ha : Bytes8 a) (n : Nat) : Bytes8 (a.take n) := fun x hx => ha x (List.mem_of_mem_take hx)
theorem rd_nat {l : List Int} {i : Nat} (h : i < l.length) : rd l (i : Int) = l[i] := by simp [rd, List.getD, List.getElem?_eq_getElem h]
theorem bt_nat {s : ByteArray} {i : Nat} (h : i < (bytesOf s).length) : bt s (i : Int) = (bytesOf s)[i] := by rw [← rd_bytesOf, rd_nat h]
def w8 (l : List Int) : Int := (l.take 8).foldl (fun w b => w * 256 + b) 0
theorem eight {l : List Int} (h : 8 ≤ l.length) : ∃ a b c d e f g i r, l = a :: b :: c :: d :: e :: f :: g :: i :: r := by
  match l, h with
  | a :: b :: c :: d :: e :: f :: g :: i :: r, _ => exact ⟨a, b, c, d, e, f, g, i, r, rfl⟩
theorem u64_is {l : List Int} (h : 8 ≤ l.length) (hb : Bytes8 l) : binary_bigEndian_Uint64.f l = some (w8 l) := by
  obtain ⟨a, b, c, d, e, f, g, i, r, rfl⟩ := eight h
  have h0 := hb a (by simp)
  have h1 := hb b (by simp)
  have h2 := hb c (by simp)
  have h3 := hb d (by simp)
  have h4 := hb e (by simp)
  have h5 := hb f (by simp)
  have h6 := hb g (by simp)
  have h7 := hb i (by simp)
  unfold binary_bigEndian_Uint64.f
  rw [if_pos (by omega), if_pos (by omega), if_pos (by omega), if_pos (by omega), if_pos (by omega), if_pos (by omega), if_pos (by omega), if_pos (by omega)]
  simp only [rd, w8, List.take_succ_cons, List.take_zero, List.foldl_cons, List.foldl_nil, show Int.toNat 7 = 7 from rfl, show Int.toNat 6 = 6 from rfl, show Int.toNat 5 = 5 from rfl, show Int.toNat 4 = 4 from rfl, show Int.toNat 3 = 3 from rfl, show Int.toNat 2 = 2 from rfl, show Int.toNat 1 = 1 from rfl, show Int.toNat 0 = 0 from rfl, List.getD_cons_succ, List.getD_cons_zero]
  simp (disch := omega) only [u64_wrap_id, u64_or8, u64_or16, u64_or24, u64_or32, u64_or40, u64_or48, u64_or56]
  congr 1
  omega
theorem or_step {w b : Int} (h0 : 0 ≤ w) (h1 : w < 72057594037927936) (h2 : 0 ≤ b) (h3 : b ≤ 255) : Go.bits .or .u64 (IntKind.u64.wrap (w * 256)) (IntKind.u64.wrap b) = w * 256 + b := by
  rw [u64_wrap_id _ (by omega) (by omega), u64_wrap_id _ (by omega) (by omega)]
  exact bits_join .u64 64 (by decide) wraps_u64 8 _ _ (by omega) (by omega) (by omega) (by omega) (by omega) (by omega)
def p256 : Nat → Int
  | 0 => 1
  | n + 1 => 256 * p256 n
theorem p256_le {m : Nat} (h : m ≤ 7) : p256 m ≤ 72057594037927936 := by
  rcases (by omega : m = 0 ∨ m = 1 ∨ m = 2 ∨ m = 3 ∨ m = 4 ∨ m = 5 ∨ m = 6 ∨ m = 7) with rfl | rfl | rfl | rfl | rfl | rfl | rfl | rfl <;> decide
theorem spec_word_l (n : Nat) : ∀ (k : Nat) (s : ByteArray) (i : Nat) (w : Int) (j : Nat), j = i + 8 - n → n ≤ 8 → n < k → i + 8 ≤ s.size → s.size ≤ 1000000 → 0 ≤ w → w < p256 (8 - n) →
    spec_l1Word.l0 k s (i : Int) w (j : Int) = some ((((bytesOf s).drop j).take n).foldl (fun w b => w * 256 + b) w) := by
  induction n with
  | zero =>
    intro k s i w j hj hn hk hs hm h0 h1
    obtain ⟨k, rfl⟩ : ∃ m, k = m + 1 := ⟨k - 1, by omega⟩
    simp only [spec_l1Word.l0]
    rw [if_neg (by unfold wrap64; omega)]
    rfl
  | succ n ih =>
    intro k s i w j hj hn hk hs hm h0 h1
    obtain ⟨k, rfl⟩ : ∃ m, k = m + 1 := ⟨k - 1, by omega⟩
    have hl : j < (bytesOf s).length := by rw [bytesOf_length]; omega
    have hb := bytesOf_8 s _ (List.getElem_mem hl)
    have hw : w < 72057594037927936 := Int.lt_of_lt_of_le h1 (p256_le (by omega))
    simp only [spec_l1Word.l0]
    rw [if_pos (by unfold wrap64; omega), if_pos (by omega), if_pos (by omega), bt_nat hl, or_step h0 hw hb.1 hb.2, show wrap64 ((j : Int) + 1) = ((j + 1 : Nat) : Int) by unfold wrap64; omega]
    rw [ih k s i _ (j + 1) (by omega) (by omega) (by omega) hs hm (by omega) (by
      rw [show 8 - n = (8 - (n + 1)) + 1 by omega]
      simp only [p256]
      omega)]
    rw [List.drop_eq_getElem_cons hl, List.take_succ_cons, List.foldl_cons]
theorem spec_word {k : Nat} (hk : 9 ≤ k) (s : ByteArray) (i : Nat) (h : i + 8 ≤ s.size) (hm : s.size ≤ 1000000) : spec_l1Word.f k s (i : Int) = some (w8 ((bytesOf s).drop i)) := by
  unfold spec_l1Word.f
  exact spec_word_l 8 k s i 0 i (by omega) (by omega) (by omega) h hm (by omega) (by decide)
theorem digest_is {l : List Int} (h : l.length = 32) (hb : Bytes8 l) : impl_digestOf.f l = some (w8 l, w8 (l.drop 8), w8 (l.drop 16), w8 (l.drop 24)) := by
  unfold impl_digestOf.f
  rw [u64_is (by omega) hb]
  simp only [Option.bind_some]
  rw [if_pos (by omega), u64_is (by rw [List.length_drop]; omega) (hb.drop _)]
  simp only [Option.bind_some]
  rw [if_pos (by omega), u64_is (by rw [List.length_drop]; omega) (hb.drop _)]
  simp only [Option.bind_some]
  rw [if_pos (by omega), u64_is (by rw [List.length_drop]; omega) (hb.drop _)]
  simp only [Option.bind_some]
theorem hback (k : Nat) (hk : 9 ≤ k) (s : ByteArray) : ∃ r : Int × Int × Int × Int × Bool, spec_HashBack.f k s = some r ∧ impl_HashBack.f s = some r := by
  unfold spec_HashBack.f impl_HashBack.f
  by_cases h : (s.size : Int) = 32
  · have hl : (bytesOf s).length = 32 := by rw [bytesOf_length]; omega
    have w := fun (i : Nat) (hi : i + 8 ≤ s.size) => spec_word hk s i hi (by omega)
    have w0 := w 0 (by omega)
    have w1 := w 8 (by omega)
    have w2 := w 16 (by omega)
    have w3 := w 24 (by omega)
    rw [show ((0 : Nat) : Int) = 0 by rfl, List.drop_zero] at w0
    rw [show ((8 : Nat) : Int) = 8 by rfl] at w1
    rw [show ((16 : Nat) : Int) = 16 by rfl] at w2
    rw [show ((24 : Nat) : Int) = 24 by rfl] at w3
    rw [if_pos h, if_pos h, w0, w1, w2, w3, digest_is hl (bytesOf_8 s)]
    exact ⟨_, rfl, rfl⟩
  · rw [if_neg h, if_neg h]
    exact ⟨_, rfl, rfl⟩
theorem hb_eq {k : Nat} (hk : 9 ≤ k) (t : ByteArray) : spec_HashBack.f k t = impl_HashBack.f t := by
  obtain ⟨r, h1, h2⟩ := hback k hk t
  rw [h1, h2]
def hv (c : Int) : Int := if 48 ≤ c ∧ c ≤ 57 then c - 48 else if 97 ≤ c ∧ c ≤ 102 then c - 87 else -1
def dig (c : Int) : Bool := decide (0 ≤ hv c)
theorem hv_le {c : Int} : hv c ≤ 15 := by
  unfold hv
  split
  · omega
  · split <;> omega
theorem hv_no {c : Int} (h : ¬ (48 ≤ c ∧ c ≤ 57)) (h2 : ¬ (97 ≤ c ∧ c ≤ 102)) : hv c = -1 := by unfold hv; rw [if_neg h, if_neg h2]
theorem hv_ge {c : Int} (h : dig c = true) : 0 ≤ hv c := of_decide_eq_true h
theorem spec_unhex {k : Nat} (hk : 1 ≤ k) {c : Int} (h0 : 0 ≤ c) (h1 : c ≤ 255) : spec_l1Unhex.f k c = some (hv c) := by
  obtain ⟨k, rfl⟩ : ∃ m, k = m + 1 := ⟨k - 1, by omega⟩
  unfold spec_l1Unhex.f hv
  have tail : (if c ≥ 97 then (if c ≤ 102 then (some (((c - 97) % 256) + 10)) else (some (-1))) else (some (-1)) : Option Int) = some (if 97 ≤ c ∧ c ≤ 102 then c - 87 else -1) := by
    by_cases d : c ≥ 97
    · rw [if_pos d]
      by_cases e : c ≤ 102
      · rw [if_pos e, if_pos ⟨d, e⟩]
        exact congrArg some (by omega)
      · rw [if_neg e, if_neg (fun h => e h.2)]
    · rw [if_neg d, if_neg (fun h => d h.1)]
  have j0 : ∀ b : Bool, spec_l1Unhex.j0 (k + 1) c b = if b = true then some ((c - 48) % 256) else some (if 97 ≤ c ∧ c ≤ 102 then c - 87 else -1) := by
    intro b
    rw [spec_l1Unhex.j0, tail]
  by_cases a : c ≥ 48
  · rw [if_pos a, j0]
    by_cases b : c ≤ 57
    · rw [if_pos (decide_eq_true b), if_pos (show 48 ≤ c ∧ c ≤ 57 from ⟨a, b⟩)]
      exact congrArg some (by omega)
    · rw [if_neg (by simpa using b), if_neg (show ¬ (48 ≤ c ∧ c ≤ 57) by omega)]
  · rw [if_neg a, j0, if_neg (by simp), if_neg (show ¬ (48 ≤ c ∧ c ≤ 57) by omega)]
theorem tab_all : ∀ c : Fin 256, dig (c.val : Int) = true → bt hexTab (c.val : Int) = hv (c.val : Int) := by decide +kernel
theorem tab {c : Int} (h0 : 0 ≤ c) (h1 : c ≤ 255) (h : dig c = true) : bt hexTab c = hv c := by
  have := tab_all ⟨c.toNat, by omega⟩
  simp only [show ((c.toNat : Nat) : Int) = c by omega] at this
  exact this h
theorem or_all : ∀ x y : Fin 16, Go.bits .or .u8 (((x.val : Int) * 16) % 256) (y.val : Int) = 16 * (x.val : Int) + (y.val : Int) := by decide +kernel
theorem or_is {x y : Int} (h0 : 0 ≤ x) (h1 : x ≤ 15) (h2 : 0 ≤ y) (h3 : y ≤ 15) : Go.bits .or .u8 ((x * 16) % 256) y = 16 * x + y := by
  have := or_all ⟨x.toNat, by omega⟩ ⟨y.toNat, by omega⟩
  simp only [show ((x.toNat : Nat) : Int) = x by omega, show ((y.toNat : Nat) : Int) = y by omega] at this
  exact this
def prs : List Int → List Int
  | a :: b :: l => (16 * hv a + hv b) :: prs l
  | _ => []
theorem prs_length : ∀ l : List Int, (prs l).length = l.length / 2
  | [] => rfl
  | [_] => by simp [prs]
  | a :: b :: l => by simp [prs, prs_length l]; omega
theorem prs_short {l : List Int} (h : l.length ≤ 1) : prs l = [] := by
  have := prs_length l
  exact List.eq_nil_of_length_eq_zero (by omega)
theorem dec_l (B : List Int) (hB : Bytes8 B) (hd : ∀ x ∈ B, dig x = true) (hl : B.length ≤ 4000000) (n : Nat) : ∀ (k j : Nat) (P : List Int), P.length = j → B.length / 2 = j + n → n < k →
    hex_Decode.l0 k (P ++ List.replicate n 0) B (j : Int) ((2 * j : Nat) : Int) = some (((j + n : Nat) : Int), (B.length : Int) % 2, P ++ prs (B.drop (2 * j))) := by
  have hw : wrap64 ((B.length : Int) - 1) = (B.length : Int) - 1 := by unfold wrap64; omega
  induction n with
  | zero =>
    intro k j P hP hj hk
    obtain ⟨k, rfl⟩ : ∃ m, k = m + 1 := ⟨k - 1, by omega⟩
    rw [hex_Decode.l0, hw, if_neg (by omega)]
    by_cases e : (B.length : Int) % 2 = 1
    · have hi : 2 * j < B.length := by omega
      have hb := hB _ (List.getElem_mem hi)
      have hx := hd _ (List.getElem_mem hi)
      have hvl := @hv_le B[2 * j]
      rw [if_pos e, if_pos (by omega), if_pos (by omega), rd_nat hi, if_pos hb.1, if_pos (by omega), tab hb.1 hb.2 hx, if_neg (by omega), e, prs_short (l := B.drop (2 * j)) (by rw [List.length_drop]; omega)]
      simp
    · rw [if_neg e, show (B.length : Int) % 2 = 0 by omega, prs_short (l := B.drop (2 * j)) (by rw [List.length_drop]; omega)]
      simp
  | succ n ih =>
    intro k j P hP hj hk
    obtain ⟨k, rfl⟩ : ∃ m, k = m + 1 := ⟨k - 1, by omega⟩
    have hi : 2 * j < B.length := by omega
    have hi2 : 2 * j + 1 < B.length := by omega
    have hb := hB _ (List.getElem_mem hi)
    have hx := hd _ (List.getElem_mem hi)
    have hb2 := hB _ (List.getElem_mem hi2)
    have hx2 := hd _ (List.getElem_mem hi2)
    have hvl := @hv_le B[2 * j]
    have hvl2 := @hv_le B[2 * j + 1]
    have hset : ∀ x : Int, (P ++ List.replicate (n + 1) 0).set ((j : Nat) : Int).toNat x = (P ++ [x]) ++ List.replicate n 0 := by
      intro x
      rw [show ((j : Nat) : Int).toNat = P.length by omega, List.set_append_right _ _ (by simp), List.replicate_succ]
      simp
    rw [hex_Decode.l0, hw, if_pos (by omega), if_pos (by omega), if_pos (by omega), show wrap64 (((2 * j : Nat) : Int) + 1) = ((2 * j + 1 : Nat) : Int) by unfold wrap64; omega, if_pos (by omega), if_pos (by omega), rd_nat hi, rd_nat hi2, if_pos hb.1, if_pos (by omega), if_pos hb2.1, if_pos (by omega), tab hb.1 hb.2 hx, tab hb2.1 hb2.2 hx2, if_neg (by omega), if_neg (by omega), if_pos (by omega), if_pos (by rw [List.length_append, List.length_replicate]; omega), or_is (hv_ge hx) hvl (hv_ge hx2) hvl2, hset, show wrap64 ((j : Int) + 1) = ((j + 1 : Nat) : Int) by unfold wrap64; omega, show wrap64 (((2 * j : Nat) : Int) + 2) = ((2 * (j + 1) : Nat) : Int) by unfold wrap64; omega, ih k (j + 1) _ (by rw [List.length_append, List.length_singleton]; omega) (by omega) (by omega), List.drop_eq_getElem_cons hi, List.drop_eq_getElem_cons hi2, show j + 1 + n = j + (n + 1) by omega, show 2 * (j + 1) = 2 * j + 1 + 1 by omega]
    simp [prs]
theorem decS {k : Nat} (s : ByteArray) (hd : ∀ x ∈ bytesOf s, dig x = true) (hs : s.size ≤ 2000000) (hk : 2000000 < k) : hex_DecodeString.f k s = some (prs (bytesOf s), (s.size : Int) % 2) := by
  unfold hex_DecodeString.f
  have hdl : hex_DecodedLen.f (s.size : Int) = some ((s.size / 2 : Nat) : Int) := by
    unfold hex_DecodedLen.f
    rw [Int.tdiv_eq_ediv_of_nonneg (by omega)]
    exact congrArg some (by unfold wrap64; omega)
  refine bsw hdl ?_
  rw [if_pos (by omega), if_pos (by omega), show (((s.size / 2 : Nat) : Int)).toNat = s.size / 2 by omega]
  refine bsw rfl (bsw (v := bytesOf s) (by unfold impl_bytesRow.f; rw [if_pos (by omega)]) ?_)
  have T := dec_l (bytesOf s) (bytesOf_8 s) hd (by rw [bytesOf_length]; omega) (s.size / 2) k 0 [] rfl (by rw [bytesOf_length]; omega) (by omega)
  rw [bytesOf_length, List.nil_append, Nat.zero_add, List.nil_append] at T
  refine bsw (v := (((s.size / 2 : Nat) : Int), (s.size : Int) % 2, prs (bytesOf s))) T ?_
  dsimp only
  rw [if_pos (by omega), if_pos (by rw [List.length_replicate]; omega), show (((s.size / 2 : Nat) : Int)).toNat = s.size / 2 by omega, List.take_of_length_le (by rw [prs_length, bytesOf_length]; omega)]
theorem hr_l (s : ByteArray) (hs : s.size ≤ 2000000) (n : Nat) : ∀ (k i : Nat), s.size = i + n → n + 2000002 < k → (bytesOf s).all dig = ((bytesOf s).drop i).all dig →
    impl_hexRead.l0 k s (i : Int) = some (if (bytesOf s).all dig = true then (strOfNums (prs (bytesOf s)), (s.size : Int) % 2 == 0) else ((⟨#[]⟩ : ByteArray), false)) := by
  induction n with
  | zero =>
    intro k i h hk ha
    obtain ⟨k, rfl⟩ : ∃ m, k = m + 1 := ⟨k - 1, by omega⟩
    rw [List.drop_of_length_le (by rw [bytesOf_length]; omega)] at ha
    rw [impl_hexRead.l0, if_neg (by omega), if_pos (by rw [ha]; rfl)]
    exact bsw (decS s (fun x hx => List.all_eq_true.1 (ha.trans rfl) x hx) hs (by omega)) rfl
  | succ n ih =>
    intro k i h hk ha
    obtain ⟨k, rfl⟩ : ∃ m, k = m + 1 := ⟨k - 1, by omega⟩
    have hi : i < (bytesOf s).length := by rw [bytesOf_length]; omega
    have hb := bytesOf_8 s _ (List.getElem_mem hi)
    rw [List.drop_eq_getElem_cons hi, List.all_cons] at ha
    rw [impl_hexRead.l0, if_pos (by omega), if_pos (by omega), bt_nat hi, w64 (by omega) (by omega), show wrap64 ((i : Int) + 1) = ((i + 1 : Nat) : Int) by unfold wrap64; omega]
    generalize (bytesOf s)[i] = c at ha hb ⊢
    refine bsw impl_in ?_
    by_cases a : 48 ≤ c ∧ c ≤ 57
    · rw [if_pos (decide_eq_true a)]
      exact ih k (i + 1) (by omega) (by omega) (by rw [ha, show dig c = true by unfold dig hv; rw [if_pos a]; exact decide_eq_true (by omega), Bool.true_and])
    · rw [if_neg (by simpa using a)]
      refine bsw impl_in ?_
      by_cases b : 97 ≤ c ∧ c ≤ 102
      · rw [if_pos (decide_eq_true b)]
        exact ih k (i + 1) (by omega) (by omega) (by rw [ha, show dig c = true by unfold dig hv; rw [if_neg a, if_pos b]; exact decide_eq_true (by omega), Bool.true_and])
      · rw [if_neg (by simpa using b), ha, show dig c = false by unfold dig; rw [hv_no a b]; rfl, Bool.false_and, if_neg (by simp)]
theorem sp_l (s : ByteArray) (hs : s.size = 64) (n : Nat) : ∀ (k j : Nat) (acc : List Int), 32 = j + n → n + 20 < k → acc.length = j →
    spec_HashRead.l0 k s acc ((2 * j : Nat) : Int) = if ((bytesOf s).drop (2 * j)).all dig = true then impl_HashBack.f (strOfNums (acc ++ prs ((bytesOf s).drop (2 * j)))) else some (0, 0, 0, 0, false) := by
  have hlen : (bytesOf s).length = 64 := by rw [bytesOf_length]; exact hs
  induction n with
  | zero =>
    intro k j acc h hk hacc
    obtain ⟨k, rfl⟩ : ∃ m, k = m + 1 := ⟨k - 1, by omega⟩
    rw [spec_HashRead.l0, if_neg (by omega), List.drop_of_length_le (by omega), hb_eq (by omega), if_pos (show ([] : List Int).all dig = true from rfl), show prs [] = [] from rfl, List.append_nil]
    cases impl_HashBack.f (strOfNums acc) <;> rfl
  | succ n ih =>
    intro k j acc h hk hacc
    obtain ⟨k, rfl⟩ : ∃ m, k = m + 1 := ⟨k - 1, by omega⟩
    have hi : 2 * j < (bytesOf s).length := by omega
    have hi2 : 2 * j + 1 < (bytesOf s).length := by omega
    have hb := bytesOf_8 s _ (List.getElem_mem hi)
    have hb2 := bytesOf_8 s _ (List.getElem_mem hi2)
    rw [spec_HashRead.l0, if_pos (by omega), if_pos (by omega), if_pos (by omega), bt_nat hi, show wrap64 (((2 * j : Nat) : Int) + 1) = ((2 * j + 1 : Nat) : Int) by unfold wrap64; omega, List.drop_eq_getElem_cons hi, List.drop_eq_getElem_cons hi2, List.all_cons, List.all_cons]
    refine bsw (spec_unhex (by omega) hb.1 hb.2) ?_
    rw [if_pos (by omega), if_pos (by omega), bt_nat hi2]
    refine bsw (spec_unhex (by omega) hb2.1 hb2.2) ?_
    generalize (bytesOf s)[2 * j] = c at hb ⊢
    generalize (bytesOf s)[2 * j + 1] = d at hb2 ⊢
    have hc := @hv_le c
    have hd := @hv_le d
    by_cases a : hv c < 0
    · rw [if_pos a, show dig c = false from decide_eq_false (by omega), Bool.false_and, if_neg (by simp)]
    · rw [if_neg a, show dig c = true from decide_eq_true (by omega), Bool.true_and]
      by_cases b : hv d < 0
      · rw [if_pos b, show dig d = false from decide_eq_false (by omega), Bool.false_and, if_neg (by simp)]
      · rw [if_neg b, show dig d = true from decide_eq_true (by omega), Bool.true_and, if_pos (by omega), show (wrap64 ((wrap64 (16 * hv c)) + hv d)) % 256 = 16 * hv c + hv d by unfold wrap64; omega, show wrap64 (((2 * j : Nat) : Int) + 2) = ((2 * (j + 1) : Nat) : Int) by unfold wrap64; omega, ih k (j + 1) _ (by omega) (by omega) (by rw [List.length_append, List.length_singleton]; omega), show 2 * (j + 1) = 2 * j + 1 + 1 by omega]
        simp [prs]
theorem hashRead_same {k : Nat} (hk : 4000010 < k) (s : ByteArray) (hs : s.size ≤ 2000000) : ∃ r, spec_HashRead.f k s = some r ∧ impl_HashRead.f k s = some r := by
  have hR : impl_hexRead.f k s = some (if (bytesOf s).all dig = true then (strOfNums (prs (bytesOf s)), (s.size : Int) % 2 == 0) else ((⟨#[]⟩ : ByteArray), false)) := by
    unfold impl_hexRead.f
    exact hr_l s hs s.size k 0 (by omega) (by omega) (by rw [List.drop_zero])
  have hz : (strOfNums (prs (bytesOf s))).size = s.size / 2 := by rw [strOfNums_size, prs_length, bytesOf_length]
  have eta : ∀ t : ByteArray, ((impl_HashBack.f t).bind fun bt165 => (some (bt165.1, bt165.2.1, bt165.2.2.1, bt165.2.2.2.1, bt165.2.2.2.2))) = impl_HashBack.f t := by
    intro t
    cases impl_HashBack.f t <;> rfl
  by_cases c : (s.size : Int) = 64
  · obtain ⟨r, h1, h2⟩ := hback 9 (by omega) (strOfNums (prs (bytesOf s)))
    have hS : spec_HashRead.f k s = if (bytesOf s).all dig = true then impl_HashBack.f (strOfNums (prs (bytesOf s))) else some (0, 0, 0, 0, false) := by
      unfold spec_HashRead.f
      rw [if_pos c]
      have := sp_l s (by omega) 32 k 0 [] (by omega) (by omega) rfl
      rw [Nat.mul_zero, List.drop_zero, List.nil_append] at this
      exact this
    by_cases a : (bytesOf s).all dig = true
    · rw [if_pos a] at hR hS
      refine ⟨r, hS.trans h2, ?_⟩
      unfold impl_HashRead.f
      refine bsw hR ?_
      rw [if_pos (show ((s.size : Int) % 2 == 0) = true by rw [c]; rfl), eta]
      exact h2
    · rw [if_neg a] at hR hS
      refine ⟨_, hS, ?_⟩
      unfold impl_HashRead.f
      refine bsw hR ?_
      rw [if_neg (by simp)]
  · refine ⟨(0, 0, 0, 0, false), by unfold spec_HashRead.f; rw [if_neg c], ?_⟩
    unfold impl_HashRead.f
    by_cases a : (bytesOf s).all dig = true
    · rw [if_pos a] at hR
      refine bsw hR ?_
      by_cases e : ((s.size : Int) % 2 == 0) = true
      · have e2 := eq_of_beq e
        rw [if_pos e, eta]
        unfold impl_HashBack.f
        rw [if_neg (by rw [hz]; omega)]
      · rw [if_neg e]
    · rw [if_neg a] at hR
      refine bsw hR ?_
      rw [if_neg (by simp)]
end Go.Proofs.YtflcbanemolkfaaDoor.Q
