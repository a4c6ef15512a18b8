/- HashOf as a plain function of a text: the program's and the reference's come to it. No condition. -/
import Derived.Test.YtflckegggopdnaaQBlock
import Derived.Test.YtflckegggopdnaaGImplHash1
import Derived.Test.YtflckegggopdnaaGSpecHash1
namespace Go.Proofs.Ytflckegggopdnaa.Q
open Go.RowKit Go.Proofs.Ytflckegggopdnaa.B Go.Proofs.YtflckegggopdnaaW.PrintWords Go.Proofs.YtflckegggopdnaaW.PrintLast Go.Proofs.YtflckegggopdnaaW.PrintMore

/-- Numbers that are bytes. -/
def Bytes8 (l : List Int) : Prop := ∀ x ∈ l, 0 ≤ x ∧ x ≤ 255
theorem bytesOf_8 (s : ByteArray) : Bytes8 (bytesOf s) := by
  intro x hx
  simp only [bytesOf, List.mem_map] at hx
  obtain ⟨b, _, rfl⟩ := hx
  have := b.toNat_lt
  omega
theorem bytesOf_str (l : List Int) (h : Bytes8 l) : bytesOf (strOfNums l) = l := by
  simp only [bytesOf, strOfNums_data, List.map_map]
  conv => rhs; rw [← List.map_id l]
  apply List.map_congr_left
  intro x hx
  have := h x hx
  simp only [Function.comp, id, UInt8.toNat_ofNat']
  omega
theorem str_bytesOf (s : ByteArray) : strOfNums (bytesOf s) = s := by
  apply ByteArray.ext
  simp [strOfNums, bytesOf, Function.comp_def]
theorem be8_8 (v : Int) : Bytes8 (be8 v) := by
  intro x hx
  simp only [be8, List.mem_cons, List.not_mem_nil, or_false] at hx
  rcases hx with rfl | rfl | rfl | rfl | rfl | rfl | rfl | rfl <;> omega
theorem Bytes8.append {a b : List Int} (ha : Bytes8 a) (hb : Bytes8 b) : Bytes8 (a ++ b) := fun x hx => (List.mem_append.1 hx).elim (ha x) (hb x)
theorem Bytes8.drop {a : List Int} (ha : Bytes8 a) (n : Nat) : Bytes8 (a.drop n) := fun x hx => ha x (List.mem_of_mem_drop hx)
theorem Bytes8.take {a : List Int} (ha : Bytes8 a) (n : Nat) : Bytes8 (a.take n) := fun x hx => ha x (List.mem_of_mem_take hx)
theorem rd_nat {l : List Int} {i : Nat} (h : i < l.length) : rd l (i : Int) = l[i] := by simp [rd, List.getD, List.getElem?_eq_getElem h]
theorem bt_nat {s : ByteArray} {i : Nat} (h : i < (bytesOf s).length) : bt s (i : Int) = (bytesOf s)[i] := by rw [← rd_bytesOf, rd_nat h]

/-! A word -/
def w8 (l : List Int) : Int := (l.take 8).foldl (fun w b => w * 256 + b) 0
theorem eight {l : List Int} (h : 8 ≤ l.length) : ∃ a b c d e f g i r, l = a :: b :: c :: d :: e :: f :: g :: i :: r := by
  match l, h with
  | a :: b :: c :: d :: e :: f :: g :: i :: r, _ => exact ⟨a, b, c, d, e, f, g, i, r, rfl⟩
theorem u64_is {l : List Int} (h : 8 ≤ l.length) (hb : Bytes8 l) : binary_bigEndian_Uint64.f l = some (w8 l) := by
  obtain ⟨a, b, c, d, e, f, g, i, r, rfl⟩ := eight h
  have h0 := hb a (by simp)
  have h1 := hb b (by simp)
  have h2 := hb c (by simp)
  have h3 := hb d (by simp)
  have h4 := hb e (by simp)
  have h5 := hb f (by simp)
  have h6 := hb g (by simp)
  have h7 := hb i (by simp)
  unfold binary_bigEndian_Uint64.f
  rw [if_pos (by omega), if_pos (by omega), if_pos (by omega), if_pos (by omega), if_pos (by omega), if_pos (by omega), if_pos (by omega), if_pos (by omega)]
  simp only [rd, w8, List.take_succ_cons, List.take_zero, List.foldl_cons, List.foldl_nil, show Int.toNat 7 = 7 from rfl, show Int.toNat 6 = 6 from rfl, show Int.toNat 5 = 5 from rfl, show Int.toNat 4 = 4 from rfl, show Int.toNat 3 = 3 from rfl, show Int.toNat 2 = 2 from rfl, show Int.toNat 1 = 1 from rfl, show Int.toNat 0 = 0 from rfl, List.getD_cons_succ, List.getD_cons_zero]
  simp (disch := omega) only [u64_wrap_id, u64_or8, u64_or16, u64_or24, u64_or32, u64_or40, u64_or48, u64_or56]
  congr 1
  omega
theorem or_step {w b : Int} (h0 : 0 ≤ w) (h1 : w < 72057594037927936) (h2 : 0 ≤ b) (h3 : b ≤ 255) : Go.bits .or .u64 (IntKind.u64.wrap (w * 256)) (IntKind.u64.wrap b) = w * 256 + b := by
  rw [u64_wrap_id _ (by omega) (by omega), u64_wrap_id _ (by omega) (by omega)]
  exact bits_join .u64 64 (by decide) wraps_u64 8 _ _ (by omega) (by omega) (by omega) (by omega) (by omega) (by omega)
def p256 : Nat → Int
  | 0 => 1
  | n + 1 => 256 * p256 n
theorem p256_le {m : Nat} (h : m ≤ 7) : p256 m ≤ 72057594037927936 := by
  rcases (by omega : m = 0 ∨ m = 1 ∨ m = 2 ∨ m = 3 ∨ m = 4 ∨ m = 5 ∨ m = 6 ∨ m = 7) with rfl | rfl | rfl | rfl | rfl | rfl | rfl | rfl <;> decide
theorem spec_word_l (n : Nat) : ∀ (k : Nat) (s : ByteArray) (i : Nat) (w : Int) (j : Nat), j = i + 8 - n → n ≤ 8 → n < k → i + 8 ≤ s.size → s.size ≤ 1000000 → 0 ≤ w → w < p256 (8 - n) →
    spec_l1Word.l0 k s (i : Int) w (j : Int) = some ((((bytesOf s).drop j).take n).foldl (fun w b => w * 256 + b) w) := by
  induction n with
  | zero =>
    intro k s i w j hj hn hk hs hm h0 h1
    obtain ⟨k, rfl⟩ : ∃ m, k = m + 1 := ⟨k - 1, by omega⟩
    simp only [spec_l1Word.l0]
    rw [if_neg (by unfold wrap64; omega)]
    rfl
  | succ n ih =>
    intro k s i w j hj hn hk hs hm h0 h1
    obtain ⟨k, rfl⟩ : ∃ m, k = m + 1 := ⟨k - 1, by omega⟩
    have hl : j < (bytesOf s).length := by rw [bytesOf_length]; omega
    have hb := bytesOf_8 s _ (List.getElem_mem hl)
    have hw : w < 72057594037927936 := Int.lt_of_lt_of_le h1 (p256_le (by omega))
    simp only [spec_l1Word.l0]
    rw [if_pos (by unfold wrap64; omega), if_pos (by omega), if_pos (by omega), bt_nat hl, or_step h0 hw hb.1 hb.2, show wrap64 ((j : Int) + 1) = ((j + 1 : Nat) : Int) by unfold wrap64; omega]
    rw [ih k s i _ (j + 1) (by omega) (by omega) (by omega) hs hm (by omega) (by
      rw [show 8 - n = (8 - (n + 1)) + 1 by omega]
      simp only [p256]
      omega)]
    rw [List.drop_eq_getElem_cons hl, List.take_succ_cons, List.foldl_cons]
theorem spec_word {k : Nat} (hk : 9 ≤ k) (s : ByteArray) (i : Nat) (h : i + 8 ≤ s.size) (hm : s.size ≤ 1000000) : spec_l1Word.f k s (i : Int) = some (w8 ((bytesOf s).drop i)) := by
  unfold spec_l1Word.f
  exact spec_word_l 8 k s i 0 i (by omega) (by omega) (by omega) h hm (by omega) (by decide)

/-! What is hashed -/
def bareL (l : List Int) : List Int := l.filter fun x => !(x == 255)
theorem bareL_ne {x : Int} (l : List Int) (h : ¬ x = 255) : bareL (x :: l) = x :: bareL l := by simp [bareL, h]
theorem bareL_eq {x : Int} (l : List Int) (h : x = 255) : bareL (x :: l) = bareL l := by simp [bareL, h]
def zn (m : Nat) : Nat := (32 - (m + 9) % 32) % 32
def padL (l : List Int) : List Int := l ++ [128] ++ List.replicate (zn l.length) 0 ++ be8 (l.length : Int)
theorem padL_length (l : List Int) : (padL l).length = l.length + 9 + zn l.length := by simp [padL, be8_length]; omega
theorem padL_32 (l : List Int) : (padL l).length % 32 = 0 := by rw [padL_length]; unfold zn; omega
theorem bareL_8 {l : List Int} (h : Bytes8 l) : Bytes8 (bareL l) := fun x hx => h x (List.mem_filter.1 hx).1
theorem bareL_le (l : List Int) : (bareL l).length ≤ l.length := List.length_filter_le _ _
theorem padL_8 {l : List Int} (h : Bytes8 l) : Bytes8 (padL l) := by
  unfold padL
  refine Bytes8.append (Bytes8.append (Bytes8.append h ?_) ?_) (be8_8 _)
  · intro x hx; simp at hx; omega
  · intro x hx; have := (List.mem_replicate.1 hx).2; omega
def hfold : Nat → List Int → D4 → D4
  | 0, _, s => s
  | n + 1, l, s => hfold n (l.drop 32) (hb s (w8 l, w8 (l.drop 8), w8 (l.drop 16), w8 (l.drop 24)))
def iv : D4 := (13971524466476933880, 3286059910148148165, 8210247237615983910, 11412903256176698835)
def hashL (l : List Int) : D4 := hfold ((padL (bareL l)).length / 32) (padL (bareL l)) iv
/-- The digest of a text. -/
def hashOf (s : ByteArray) : D4 := if s.size > 20000 then (0, 0, 0, 0) else hashL (bytesOf s)

theorem spec_bare_l (n : Nat) : ∀ (k : Nat) (s : ByteArray) (acc : List Int) (i : Nat), s.size = i + n → n < k → s.size ≤ 1000000 → acc.length ≤ i → spec_l1Bare.l0 k s acc (i : Int) = some (strOfNums (acc ++ bareL ((bytesOf s).drop i))) := by
  induction n with
  | zero =>
    intro k s acc i hs hk hm ha
    obtain ⟨k, rfl⟩ : ∃ m, k = m + 1 := ⟨k - 1, by omega⟩
    simp only [spec_l1Bare.l0]
    rw [if_neg (by omega), List.drop_of_length_le (by rw [bytesOf_length]; omega)]
    simp [bareL]
  | succ n ih =>
    intro k s acc i hs hk hm ha
    obtain ⟨k, rfl⟩ : ∃ m, k = m + 1 := ⟨k - 1, by omega⟩
    have hl : i < (bytesOf s).length := by rw [bytesOf_length]; omega
    simp only [spec_l1Bare.l0]
    rw [if_pos (by omega), if_pos (by omega), bt_nat hl, show wrap64 ((i : Int) + 1) = ((i + 1 : Nat) : Int) by unfold wrap64; omega, List.drop_eq_getElem_cons hl]
    by_cases h : (bytesOf s)[i] = 255
    · rw [if_pos h, ih k s acc (i + 1) (by omega) (by omega) hm (by omega), bareL_eq _ h]
    · rw [if_neg h, if_pos (by omega), ih k s _ (i + 1) (by omega) (by omega) hm (by simp; omega), bareL_ne _ h, List.append_assoc, List.singleton_append]
theorem spec_bare {k : Nat} (s : ByteArray) (hs : s.size ≤ 1000000) (hk : s.size < k) : spec_l1Bare.f k s = some (strOfNums (bareL (bytesOf s))) := by
  unfold spec_l1Bare.f
  have := spec_bare_l s.size k s [] 0 (by omega) hk hs (by simp)
  simpa using this
theorem spec_zeros_l (n : Nat) : ∀ (k m : Nat) (acc : List Int) (i : Nat), m = i + n → n < k → m ≤ 1000 → acc.length = i → spec_l1Zeros.l0 k (m : Int) acc (i : Int) = some (strOfNums (acc ++ List.replicate n 0)) := by
  induction n with
  | zero =>
    intro k m acc i hs hk hm ha
    obtain ⟨k, rfl⟩ : ∃ m, k = m + 1 := ⟨k - 1, by omega⟩
    simp only [spec_l1Zeros.l0]
    rw [if_neg (by omega)]
    simp
  | succ n ih =>
    intro k m acc i hs hk hm ha
    obtain ⟨k, rfl⟩ : ∃ m, k = m + 1 := ⟨k - 1, by omega⟩
    simp only [spec_l1Zeros.l0]
    rw [if_pos (by omega), if_pos (by omega), show wrap64 ((i : Int) + 1) = ((i + 1 : Nat) : Int) by unfold wrap64; omega, ih k m _ (i + 1) (by omega) (by omega) hm (by simp; omega)]
    simp [List.replicate_succ]
theorem spec_zeros {k n : Nat} (hn : n ≤ 1000) (hk : n < k) : spec_l1Zeros.f k (n : Int) = some (strOfNums (List.replicate n 0)) := by
  unfold spec_l1Zeros.f
  have := spec_zeros_l n k n [] 0 (by omega) hk hn rfl
  simpa using this
theorem spec_fold_l (n : Nat) : ∀ (k : Nat) (l : List Int) (i : Nat) (s : D4), Bytes8 l → l.length = i + 32 * n → n + 11 < k → l.length ≤ 1000000 →
    spec_HashOf.l0 k (strOfNums l) (i : Int) s.1 s.2.1 s.2.2.1 s.2.2.2 = some (hfold n (l.drop i) s) := by
  induction n with
  | zero =>
    intro k l i s hb hl hk hm
    obtain ⟨k, rfl⟩ : ∃ m, k = m + 1 := ⟨k - 1, by omega⟩
    simp only [spec_HashOf.l0]
    rw [if_neg (by rw [str_size]; omega)]
    rfl
  | succ n ih =>
    intro k l i s hb8 hl hk hm
    obtain ⟨k, rfl⟩ : ∃ m, k = m + 1 := ⟨k - 1, by omega⟩
    simp only [spec_HashOf.l0]
    rw [if_pos (by rw [str_size]; omega), spec_word (by omega) _ i (by rw [str_size]; omega) (by rw [str_size]; omega)]
    simp only [Option.bind_some]
    rw [show wrap64 ((i : Int) + 8) = ((i + 8 : Nat) : Int) by unfold wrap64; omega, spec_word (by omega) _ (i + 8) (by rw [str_size]; omega) (by rw [str_size]; omega)]
    simp only [Option.bind_some]
    rw [show wrap64 ((i : Int) + 16) = ((i + 16 : Nat) : Int) by unfold wrap64; omega, spec_word (by omega) _ (i + 16) (by rw [str_size]; omega) (by rw [str_size]; omega)]
    simp only [Option.bind_some]
    rw [show wrap64 ((i : Int) + 24) = ((i + 24 : Nat) : Int) by unfold wrap64; omega, spec_word (by omega) _ (i + 24) (by rw [str_size]; omega) (by rw [str_size]; omega)]
    simp only [Option.bind_some]
    rw [spec_block (by omega)]
    simp only [Option.bind_some]
    rw [show wrap64 ((i : Int) + 32) = ((i + 32 : Nat) : Int) by unfold wrap64; omega, ih k l (i + 32) _ hb8 (by omega) (by omega) hm, bytesOf_str l hb8]
    simp only [hfold, List.drop_drop]
theorem spec_hash {k : Nat} (hk : 30000 ≤ k) (s : ByteArray) : spec_HashOf.f k s = some (hashOf s) := by
  unfold spec_HashOf.f hashOf
  by_cases h : s.size > 20000
  · rw [if_pos (by omega), if_pos h]
  · rw [if_neg (by omega), if_neg h, spec_bare s (by omega) (by omega)]
    have hb := bareL_8 (bytesOf_8 s)
    have hle := bareL_le (bytesOf s)
    rw [bytesOf_length] at hle
    have hp : padL (bareL (bytesOf s)) = bareL (bytesOf s) ++ [128] ++ List.replicate (zn (bareL (bytesOf s)).length) 0 ++ be8 ((bareL (bytesOf s)).length : Int) := rfl
    have h32 := padL_32 (bareL (bytesOf s))
    have hpl := padL_length (bareL (bytesOf s))
    have hz : zn (bareL (bytesOf s)).length < 32 := by unfold zn; omega
    have hp8 := padL_8 hb
    unfold hashL
    generalize bareL (bytesOf s) = l at *
    simp only [Option.bind_some, str_size]
    rw [if_pos (by simp; omega), show Int.tmod (wrap64 (32 - (Int.tmod (wrap64 ((l.length : Int) + 9)) 32))) 32 = ((zn l.length : Nat) : Int) by
      rw [w64 (x := (l.length : Int) + 9) (by omega) (by omega), show Int.tmod ((l.length : Int) + 9) 32 = (((l.length + 9) % 32 : Nat) : Int) by rw [Int.tmod_eq_emod_of_nonneg (by omega)]; omega, w64 (by omega) (by omega), Int.tmod_eq_emod_of_nonneg (by omega)]
      unfold zn
      omega, spec_zeros (by omega) (by omega)]
    simp only [Option.bind_some, str_append, str_size]
    rw [if_pos (by simp; omega), show IntKind.u64.wrap ((l.length : Int)) = (l.length : Int) from wrap_lit _ (by omega), spec_bytes (by omega)]
    simp only [Option.bind_some, str_append, str_size]
    rw [if_pos (by simp [be8_length]; omega), ← hp]
    have := spec_fold_l ((padL l).length / 32) k (padL l) 0 iv hp8 (by omega) (by omega) (by omega)
    exact this

/-! The program's -/
theorem digest_is {l : List Int} (h : l.length = 32) (hb : Bytes8 l) : impl_digestOf.f l = some (w8 l, w8 (l.drop 8), w8 (l.drop 16), w8 (l.drop 24)) := by
  unfold impl_digestOf.f
  rw [u64_is (by omega) hb]
  simp only [Option.bind_some]
  rw [if_pos (by omega), u64_is (by rw [List.length_drop]; omega) (hb.drop _)]
  simp only [Option.bind_some]
  rw [if_pos (by omega), u64_is (by rw [List.length_drop]; omega) (hb.drop _)]
  simp only [Option.bind_some]
  rw [if_pos (by omega), u64_is (by rw [List.length_drop]; omega) (hb.drop _)]
  simp only [Option.bind_some]
theorem w8_take (l : List Int) (m : Nat) (h : 8 ≤ m) : w8 (l.take m) = w8 l := by
  unfold w8
  rw [List.take_take, Nat.min_eq_left h]
theorem impl_fold_l (n : Nat) : ∀ (k : Nat) (l : List Int) (i : Nat) (s : D4), Bytes8 l → l.length = i + 32 * n → n + 11 < k → l.length ≤ 1000000 →
    impl_HashOf.l2 k l (i : Int) s.1 s.2.1 s.2.2.1 s.2.2.2 = some (hfold n (l.drop i) s) := by
  induction n with
  | zero =>
    intro k l i s hb hl hk hm
    obtain ⟨k, rfl⟩ : ∃ m, k = m + 1 := ⟨k - 1, by omega⟩
    simp only [impl_HashOf.l2]
    rw [if_neg (by omega)]
    rfl
  | succ n ih =>
    intro k l i s hb8 hl hk hm
    obtain ⟨k, rfl⟩ : ∃ m, k = m + 1 := ⟨k - 1, by omega⟩
    simp only [impl_HashOf.l2]
    rw [show wrap64 ((i : Int) + 32) = ((i + 32 : Nat) : Int) by unfold wrap64; omega, if_pos (by omega), if_pos (by omega), if_pos (by omega), if_pos (by omega)]
    rw [show (((i + 32 : Nat) : Int)).toNat = i + 32 from rfl, show ((i : Nat) : Int).toNat = i from rfl]
    have e : (l.take (i + 32)).drop i = (l.drop i).take 32 := by rw [List.drop_take]; congr 1; omega
    rw [e, digest_is (by rw [List.length_take, List.length_drop]; omega) ((hb8.drop _).take _)]
    simp only [Option.bind_some]
    rw [impl_block (by omega)]
    simp only [Option.bind_some]
    rw [ih k l (i + 32) _ hb8 (by omega) (by omega) hm]
    simp only [hfold, List.drop_drop, List.drop_take, w8_take _ 32 (by omega), w8_take _ (32 - 8) (by omega), w8_take _ (32 - 16) (by omega), w8_take _ (32 - 24) (by omega)]
theorem impl_pad_l (z : Nat) : ∀ (k : Nat) (x : List Int) (v : Int), Bytes8 x → (x.length + z) % 32 = 24 → z < 32 → 2000 + z < k → x.length + z ≤ 30000 →
    impl_HashOf.l1 k x v = some (hfold ((x.length + z + 8) / 32) (x ++ List.replicate z 0 ++ be8 v) iv) := by
  induction z with
  | zero =>
    intro k x v hb hz _ hk hm
    obtain ⟨k, rfl⟩ : ∃ m, k = m + 1 := ⟨k - 1, by omega⟩
    simp only [impl_HashOf.l1]
    rw [if_pos (by omega), app64 _ _ (by omega)]
    simp only [Option.bind_some]
    have := impl_fold_l ((x.length + 8) / 32) k (x ++ be8 v) 0 iv (hb.append (be8_8 v)) (by simp [be8_length]; omega) (by omega) (by simp [be8_length]; omega)
    simp only [List.drop_zero] at this
    simp only [List.replicate_zero, List.append_nil, Nat.add_zero]
    exact this
  | succ z ih =>
    intro k x v hb hz hz2 hk hm
    obtain ⟨k, rfl⟩ : ∃ m, k = m + 1 := ⟨k - 1, by omega⟩
    simp only [impl_HashOf.l1]
    rw [if_neg (by omega), if_pos (by omega)]
    rw [ih k (x ++ [0]) v (hb.append (by intro y hy; simp at hy; omega)) (by simp; omega) (by omega) (by omega) (by simp; omega)]
    simp only [List.length_append, List.length_singleton, List.append_assoc, List.replicate_succ, List.singleton_append]
    rw [show x.length + 1 + z + 8 = x.length + (z + 1) + 8 by omega]
theorem impl_bare_l (n : Nat) : ∀ (k : Nat) (s : ByteArray) (acc : List Int) (i : Nat), s.size = i + n → n + 2100 < k → s.size ≤ 20000 → acc.length ≤ i → Bytes8 acc →
    impl_HashOf.l0 k s acc (i : Int) = some (hfold ((padL (acc ++ bareL ((bytesOf s).drop i))).length / 32) (padL (acc ++ bareL ((bytesOf s).drop i))) iv) := by
  induction n with
  | zero =>
    intro k s acc i hs hk hm ha h8
    obtain ⟨k, rfl⟩ : ∃ m, k = m + 1 := ⟨k - 1, by omega⟩
    simp only [impl_HashOf.l0]
    rw [if_neg (by omega), if_pos (by omega), List.drop_of_length_le (by rw [bytesOf_length]; omega)]
    simp only [bareL, List.filter_nil, List.append_nil]
    rw [show IntKind.u64.wrap ((acc.length : Int)) = (acc.length : Int) from wrap_lit _ (by omega)]
    rw [impl_pad_l (zn acc.length) k (acc ++ [128]) _ (h8.append (by intro y hy; simp at hy; omega)) (by simp; unfold zn; omega) (by unfold zn; omega) (by unfold zn; omega) (by simp; unfold zn; omega)]
    rw [padL_length]
    unfold padL
    simp only [List.length_append, List.length_singleton]
    rw [show acc.length + 1 + zn acc.length + 8 = acc.length + 9 + zn acc.length by omega]
  | succ n ih =>
    intro k s acc i hs hk hm ha h8
    obtain ⟨k, rfl⟩ : ∃ m, k = m + 1 := ⟨k - 1, by omega⟩
    have hl : i < (bytesOf s).length := by rw [bytesOf_length]; omega
    simp only [impl_HashOf.l0]
    rw [if_pos (by omega), if_pos (by omega), bt_nat hl, show wrap64 ((i : Int) + 1) = ((i + 1 : Nat) : Int) by unfold wrap64; omega, List.drop_eq_getElem_cons hl]
    by_cases h : (bytesOf s)[i] = 255
    · rw [if_pos h, ih k s acc (i + 1) (by omega) (by omega) hm (by omega) h8, bareL_eq _ h]
    · rw [if_neg h, if_pos (by omega), ih k s _ (i + 1) (by omega) (by omega) hm (by simp; omega) (h8.append (by intro y hy; simp at hy; subst hy; exact bytesOf_8 s _ (List.getElem_mem hl))), bareL_ne _ h, List.append_assoc, List.singleton_append]
theorem impl_hash {k : Nat} (hk : 30000 ≤ k) (s : ByteArray) : impl_HashOf.f k s = some (hashOf s) := by
  unfold impl_HashOf.f hashOf
  by_cases h : s.size > 20000
  · rw [if_pos (by omega), if_pos h]
  · rw [if_neg (by omega), if_neg h]
    have := impl_bare_l s.size k s [] 0 (by omega) (by omega) (by omega) (by simp) (by intro x hx; simp at hx)
    simpa [hashL] using this
end Go.Proofs.Ytflckegggopdnaa.Q
