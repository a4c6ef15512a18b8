/- The reader of a code never fails: each pick, word, digest and text that it draws is there, within its bounds. Condition: the reader has gone fewer than 2^39 steps. -/
import Derived.Test.YtfbhlofifodkjaaQHash
import Derived.Test.YtfbhlofifodkjaaFSpecL1RdPick
import Derived.Test.YtfbhlofifodkjaaFSpecL1RdText
import Derived.Test.YtfbhlofifodkjaaFSpecL1RdWord
import Derived.Test.YtfbhlofifodkjaaFSpecL1RdDigest
import Derived.Test.YtfbhlofifodkjaaFSpecL1RdPad
import Derived.Test.YtfbhlofifodkjaaFSpecL1Open
import Derived.Test.YtfbhlofifodkjaaFSpecL1Many
namespace Go.Proofs.Ytfbhlofifodkjaa.Q
open Go.RowKit Go.Proofs.Ytfbhlofifodkjaa.B Go.Proofs.YtfbhlofifodkjaaW.PrintWords Go.Proofs.YtfbhlofifodkjaaW.PrintLast Go.Proofs.YtfbhlofifodkjaaW.PrintMore
theorem xor_nat (a b : Nat) (ha : a < 2 ^ 62) (hb : b < 2 ^ 62) : Go.bits .xor .i64 (a : Int) (b : Int) = ((a ^^^ b : Nat) : Int) := by
  have hx : a ^^^ b < 2 ^ 62 := Nat.xor_lt_two_pow ha hb
  have ha' : a % 2 ^ IntKind.i64.bits = a := Nat.mod_eq_of_lt (Nat.lt_of_lt_of_le ha (by decide))
  have hb' : b % 2 ^ IntKind.i64.bits = b := Nat.mod_eq_of_lt (Nat.lt_of_lt_of_le hb (by decide))
  simp only [Go.bits, BitVec.ofInt_natCast, BitVec.toNat_xor, BitVec.toNat_ofNat, ha', hb']
  generalize a ^^^ b = c at *
  rw [IntKind.wrap_i64]
  omega
theorem bits_range (o : BinOp) (x y : Int) : 0 ≤ Go.bits o .u64 x y ∧ Go.bits o .u64 x y < 18446744073709551616 := by
  unfold Go.bits
  simp only [IntKind.wrap_u64]
  omega
theorem rd_8 {b : List Int} (h : Bytes8 b) (i : Int) : 0 ≤ rd b i ∧ rd b i ≤ 255 := by
  unfold rd
  by_cases hi : i.toNat < b.length
  · have : b.getD i.toNat 0 = b[i.toNat] := by simp [List.getD, List.getElem?_eq_getElem hi]
    rw [this]
    exact h _ (List.getElem_mem hi)
  · have : b.getD i.toNat 0 = 0 := by simp [List.getD, List.getElem?_eq_none (by omega : b.length ≤ i.toNat)]
    rw [this]
    omega
/-- A reader of bytes b at p, within m. -/
structure Rdr (b : List Int) (p m : Int) : Prop where
  bytes : Bytes8 b
  len : b.length ≤ 2000
  low : 0 ≤ p
  high : p ≤ m
theorem Rdr.more {b : List Int} {p m q n : Int} (h : Rdr b p m) (h0 : p ≤ q) (h1 : q - p ≤ n - m) : Rdr b q n := ⟨h.bytes, h.len, by have := h.low; omega, by have := h.high; omega⟩
theorem mix_ok {a c q e : Int} (ha : 0 ≤ a ∧ a ≤ 255) (hc : 0 ≤ c ∧ c ≤ 255) (hq : 0 ≤ q ∧ q ≤ 1000000000000) (he : 0 ≤ e ∧ e ≤ q) :
    ∃ v : Nat, Go.bits .xor .i64 (wrap64 ((wrap64 ((wrap64 ((wrap64 ((wrap64 a) * 131)) + (wrap64 ((wrap64 c) * 1117)))) + (wrap64 (q * 29)))) + (wrap64 ((wrap64 e) * 53)))) (wrap64 (Int.tdiv (wrap64 ((wrap64 ((wrap64 ((wrap64 ((wrap64 a) * 131)) + (wrap64 ((wrap64 c) * 1117)))) + (wrap64 (q * 29)))) + (wrap64 ((wrap64 e) * 53)))) 64)) = (v : Int) := by
  have hx : wrap64 ((wrap64 ((wrap64 ((wrap64 ((wrap64 a) * 131)) + (wrap64 ((wrap64 c) * 1117)))) + (wrap64 (q * 29)))) + (wrap64 ((wrap64 e) * 53))) = a * 131 + c * 1117 + q * 29 + e * 53 := by
    rw [w64 (x := a) (by omega) (by omega), w64 (x := c) (by omega) (by omega), w64 (x := e) (by omega) (by omega), w64 (x := a * 131) (by omega) (by omega), w64 (x := c * 1117) (by omega) (by omega),
      w64 (x := q * 29) (by omega) (by omega), w64 (x := e * 53) (by omega) (by omega), w64 (x := a * 131 + c * 1117) (by omega) (by omega), w64 (x := a * 131 + c * 1117 + q * 29) (by omega) (by omega), w64 (by omega) (by omega)]
  rw [hx]
  obtain ⟨x, hx2⟩ : ∃ x : Nat, a * 131 + c * 1117 + q * 29 + e * 53 = (x : Int) := ⟨(a * 131 + c * 1117 + q * 29 + e * 53).toNat, by omega⟩
  have hb : x < 2 ^ 62 := by omega
  rw [hx2, Int.tdiv_eq_ediv_of_nonneg (by omega), w64 (by omega) (by omega), show (x : Int) / 64 = ((x / 64 : Nat) : Int) by omega, xor_nat _ _ hb (by omega)]
  exact ⟨_, rfl⟩
theorem pick_ok {k : Nat} (hk : 1 ≤ k) {b : List Int} {p m : Int} (h : Rdr b p m) (hm : m ≤ 900000000000) (n : Int) : ∃ v, spec_l1Rd_pick.f k b p n = some (v, p + 1) ∧ 0 ≤ v ∧ (1 ≤ n → v < n) ∧ (n < 1 → v = 0) := by
  obtain ⟨k, rfl⟩ : ∃ m, k = m + 1 := ⟨k - 1, by omega⟩
  have h1 := h.low
  have h2 := h.high
  have h3 := h.len
  unfold spec_l1Rd_pick.f
  rw [show wrap64 (p + 1) = p + 1 by unfold wrap64; omega]
  by_cases hn : n < 1
  · rw [if_pos hn]
    simp only [spec_l1Rd_pick.j0, if_true]
    exact ⟨0, rfl, by omega, by omega, fun _ => rfl⟩
  · rw [if_neg hn]
    by_cases h0 : b.length = 0
    · rw [show ((b.length : Int) == 0) = true by simp [h0]]
      simp only [spec_l1Rd_pick.j0, if_true]
      exact ⟨0, rfl, by omega, by omega, fun _ => rfl⟩
    · rw [show ((b.length : Int) == 0) = false by rw [beq_eq_false_iff_ne]; omega]
      simp only [spec_l1Rd_pick.j0, Bool.false_eq_true, if_false]
      rw [show wrap64 (p + 1 - 1) = p by unfold wrap64; omega]
      by_cases hp : p < (b.length : Int)
      · have := rd_8 h.bytes p
        rw [if_pos hp, if_pos h1, if_neg (by omega), w64 (by omega) (by omega)]
        exact ⟨_, rfl, Int.tmod_nonneg _ (by omega), fun _ => Int.tmod_lt_of_pos _ (by omega), by omega⟩
      · have l0 : 0 < (b.length : Int) := by omega
        have t0 := Int.tmod_nonneg (b.length : Int) h1
        have t1 := Int.tmod_lt_of_pos p l0
        have q0 : wrap64 (wrap64 (p * 7) + 3) = p * 7 + 3 := by rw [w64 (x := p * 7) (by omega) (by omega), w64 (by omega) (by omega)]
        have t2 := Int.tmod_nonneg (b.length : Int) (show (0 : Int) ≤ p * 7 + 3 by omega)
        have t3 := Int.tmod_lt_of_pos (p * 7 + 3) l0
        have d0 : 0 ≤ p.tdiv (b.length : Int) := Int.tdiv_nonneg h1 (by omega)
        have d1 : p.tdiv (b.length : Int) ≤ p := by rw [Int.tdiv_eq_ediv_of_nonneg h1]; exact Int.ediv_le_self _ h1
        rw [if_neg hp, if_neg (by omega), if_pos t0, if_pos t1, q0, if_pos t2, if_pos t3, if_neg (by omega), show wrap64 (p.tdiv (b.length : Int)) = wrap64 (p.tdiv (b.length : Int)) from rfl]
        obtain ⟨v, hv⟩ := mix_ok (rd_8 h.bytes (p.tmod (b.length : Int))) (rd_8 h.bytes ((p * 7 + 3).tmod (b.length : Int))) ⟨h1, by omega⟩ ⟨d0, d1⟩
        rw [hv]
        exact ⟨_, rfl, Int.tmod_nonneg _ (by omega), fun _ => Int.tmod_lt_of_pos _ (by omega), by omega⟩
theorem word_l (j : Nat) : ∀ (k : Nat) (w : Int) (i : Nat) (b : List Int) (p m : Int), i + j = 8 → j + 1 < k → Rdr b p m → m + j ≤ 800000000000 → 0 ≤ w → w < 18446744073709551616 → ∃ v q, spec_l1Rd_word.l0 k w (i : Int) b p = some (v, q) ∧ 0 ≤ v ∧ v < 18446744073709551616 ∧ Rdr b q (m + j) ∧ p ≤ q := by
  induction j with
  | zero =>
    intro k w i b p m hi hk h hm w0 w1
    obtain ⟨k, rfl⟩ : ∃ m, k = m + 1 := ⟨k - 1, by omega⟩
    simp only [spec_l1Rd_word.l0]
    rw [if_neg (by omega)]
    exact ⟨w, p, rfl, w0, w1, h.more (by omega) (by omega), by omega⟩
  | succ j ih =>
    intro k w i b p m hi hk h hm w0 w1
    obtain ⟨k, rfl⟩ : ∃ m, k = m + 1 := ⟨k - 1, by omega⟩
    simp only [spec_l1Rd_word.l0]
    obtain ⟨v, hv, _⟩ := pick_ok (k := k) (by omega) h (by omega) 256
    rw [if_pos (by omega), hv]
    simp only [Option.bind_some]
    rw [show wrap64 ((i : Int) + 1) = ((i + 1 : Nat) : Int) by unfold wrap64; omega]
    have hr := bits_range .or (IntKind.u64.wrap (w * 256)) (IntKind.u64.wrap v)
    obtain ⟨v', q, h1, h2, h3, h4, h5⟩ := ih k _ (i + 1) b (p + 1) (m + 1) (by omega) (by omega) (h.more (by omega) (by omega)) (by omega) hr.1 hr.2
    exact ⟨v', q, h1, h2, h3, h4.more (by omega) (by omega), by omega⟩
theorem word_ok {k : Nat} (hk : 11 ≤ k) {b : List Int} {p m : Int} (h : Rdr b p m) (hm : m ≤ 700000000000) : ∃ v q, spec_l1Rd_word.f k b p = some (v, q) ∧ 0 ≤ v ∧ v < 18446744073709551616 ∧ Rdr b q (m + 9) ∧ p ≤ q := by
  unfold spec_l1Rd_word.f
  obtain ⟨v, hv, v0, v1, _⟩ := pick_ok (k := k) (by omega) h (by omega) 6
  rw [hv]
  simp only [Option.bind_some]
  have h' : Rdr b (p + 1) (m + 1) := h.more (by omega) (by omega)
  obtain ⟨x, hx, x0, x1, _⟩ := pick_ok (k := k) (by omega) h' (by omega) 3
  by_cases c0 : v = 0
  · rw [if_pos c0, hx]
    exact ⟨_, _, rfl, by rw [IntKind.wrap_u64]; omega, by rw [IntKind.wrap_u64]; omega, h'.more (by omega) (by omega), by omega⟩
  · rw [if_neg c0]
    by_cases c1 : v = 1
    · rw [if_pos c1, hx]
      have hr := bits_range .xor 18446744073709551615 (IntKind.u64.wrap x)
      exact ⟨_, _, rfl, hr.1, hr.2, h'.more (by omega) (by omega), by omega⟩
    · rw [if_neg c1]
      obtain ⟨v', q, h1, h2, h3, h4, h5⟩ := word_l 8 k 0 0 b (p + 1) (m + 1) (by omega) (by omega) h' (by omega) (by omega) (by omega)
      exact ⟨v', q, h1, h2, h3, h4.more (by omega) (by omega), by omega⟩
def U4 (d : D4) : Prop := (0 ≤ d.1 ∧ d.1 < 18446744073709551616) ∧ (0 ≤ d.2.1 ∧ d.2.1 < 18446744073709551616) ∧ (0 ≤ d.2.2.1 ∧ d.2.2.1 < 18446744073709551616) ∧ (0 ≤ d.2.2.2 ∧ d.2.2.2 < 18446744073709551616)
theorem digest_ok {k : Nat} (hk : 11 ≤ k) {b : List Int} {p m : Int} (h : Rdr b p m) (hm : m ≤ 600000000000) : ∃ (d : D4) (q : Int), spec_l1Rd_digest.f k b p = some (d.1, d.2.1, d.2.2.1, d.2.2.2, q) ∧ U4 d ∧ Rdr b q (m + 36) ∧ p ≤ q := by
  unfold spec_l1Rd_digest.f
  obtain ⟨v1, q1, e1, a1, b1, r1, l1⟩ := word_ok hk h (by omega)
  rw [e1]
  simp only [Option.bind_some]
  obtain ⟨v2, q2, e2, a2, b2, r2, l2⟩ := word_ok hk r1 (by omega)
  rw [e2]
  simp only [Option.bind_some]
  obtain ⟨v3, q3, e3, a3, b3, r3, l3⟩ := word_ok hk r2 (by omega)
  rw [e3]
  simp only [Option.bind_some]
  obtain ⟨v4, q4, e4, a4, b4, r4, l4⟩ := word_ok hk r3 (by omega)
  rw [e4]
  exact ⟨(v1, v2, v3, v4), q4, rfl, ⟨⟨a1, b1⟩, ⟨a2, b2⟩, ⟨a3, b3⟩, a4, b4⟩, r4.more (by omega) (by omega), by omega⟩
theorem text_l (j : Nat) : ∀ (k : Nat) (acc : List Int) (b : List Int) (p m : Int), j + 1 < k → Rdr b p m → acc.length + j ≤ 1000000 → m + j ≤ 800000000000 → ∃ s q, spec_l1Rd_text.l0 k acc (j : Int) b p = some (s, q) ∧ s.size = acc.length + j ∧ Rdr b q (m + j) ∧ p ≤ q := by
  induction j with
  | zero =>
    intro k acc b p m hk h ha hm
    obtain ⟨k, rfl⟩ : ∃ m, k = m + 1 := ⟨k - 1, by omega⟩
    simp only [spec_l1Rd_text.l0]
    rw [if_neg (by omega)]
    exact ⟨_, _, rfl, by rw [str_size]; omega, h.more (by omega) (by omega), by omega⟩
  | succ j ih =>
    intro k acc b p m hk h ha hm
    obtain ⟨k, rfl⟩ : ∃ m, k = m + 1 := ⟨k - 1, by omega⟩
    simp only [spec_l1Rd_text.l0]
    obtain ⟨v, hv, _⟩ := pick_ok (k := k) (by omega) h (by omega) 256
    rw [if_pos (by omega), hv]
    simp only [Option.bind_some]
    rw [if_pos (by omega), show wrap64 (((j + 1 : Nat) : Int) - 1) = (j : Int) by unfold wrap64; omega]
    obtain ⟨s, q, h1, h2, h3, h4⟩ := ih k (acc ++ [v % 256]) b (p + 1) (m + 1) (by omega) (h.more (by omega) (by omega)) (by simp; omega) (by omega)
    exact ⟨s, q, h1, by rw [h2]; simp; omega, h3.more (by omega) (by omega), by omega⟩
theorem text_ok {k : Nat} {n : Nat} (hn : n ≤ 100000) (hk : n + 2 < k) {b : List Int} {p m : Int} (h : Rdr b p m) (hm : m ≤ 600000000000) : ∃ s q, spec_l1Rd_text.f k b p (n : Int) = some (s, q) ∧ s.size ≤ n ∧ Rdr b q (m + n + 1) ∧ p ≤ q := by
  unfold spec_l1Rd_text.f
  rw [show wrap64 ((n : Int) + 1) = ((n + 1 : Nat) : Int) by unfold wrap64; omega]
  obtain ⟨v, hv, v0, v1, _⟩ := pick_ok (k := k) (by omega) h (by omega) ((n + 1 : Nat) : Int)
  rw [hv]
  simp only [Option.bind_some]
  obtain ⟨j, rfl⟩ : ∃ j : Nat, v = j := ⟨v.toNat, by omega⟩
  have := v1 (by omega)
  obtain ⟨s, q, h1, h2, h3, h4⟩ := text_l j k [] b (p + 1) (m + 1) (by omega) (h.more (by omega) (by omega)) (by simp; omega) (by omega)
  exact ⟨s, q, h1, by rw [h2]; simp; omega, h3.more (by omega) (by omega), by omega⟩
theorem pad_ok {k : Nat} (hk : 1 ≤ k) {b : List Int} {p m : Int} (h : Rdr b p m) (hm : m ≤ 600000000000) (s : ByteArray) (hs : s.size ≤ 1000000) : ∃ t q, spec_l1Rd_pad.f k b p s = some (t, q) ∧ t.size = s.size + 1 ∧ Rdr b q (m + 1) ∧ p ≤ q := by
  unfold spec_l1Rd_pad.f
  rw [show wrap64 ((s.size : Int) + 1) = ((s.size + 1 : Nat) : Int) by unfold wrap64; omega]
  obtain ⟨v, hv, v0, v1, _⟩ := pick_ok (k := k) (by omega) h (by omega) ((s.size + 1 : Nat) : Int)
  rw [hv]
  simp only [Option.bind_some]
  have hv1 := v1 (by omega)
  obtain ⟨j, rfl⟩ : ∃ j : Nat, v = j := ⟨v.toNat, by omega⟩
  have e1 : (s.extract 0 j).size = j := by rw [ByteArray.size_extract]; omega
  have e2 : (s.extract j s.size).size = s.size - j := by rw [ByteArray.size_extract]; omega
  have e3 : (strOfNums [255]).size = 1 := by rw [str_size]; rfl
  have e4 : (s.extract 0 j ++ strOfNums [255]).size = j + 1 := by rw [ByteArray.size_append, e1, e3]
  rw [if_pos (by omega), if_pos (by omega), Int.toNat_natCast, if_pos (by rw [e1, e3]; omega), if_pos (by rw [e4, e2]; omega)]
  exact ⟨_, _, rfl, by rw [ByteArray.size_append, e4, e2]; omega, h.more (by omega) (by omega), by omega⟩
theorem many_l (f : Nat) : ∀ (k n : Nat) (s out : ByteArray), n < 2 ^ f → f < k → f ≤ 20 → s.size * 2 ^ f ≤ 1000000000000 → out.size ≤ 1000000000000000 - 1000000000000 * f → ∃ t, spec_l1Many.l0 k s (n : Int) out = some t ∧ t.size = out.size + s.size * n := by
  induction f with
  | zero =>
    intro k n s out hn hk _ hs ho
    obtain ⟨k, rfl⟩ : ∃ m, k = m + 1 := ⟨k - 1, by omega⟩
    have : n = 0 := by simpa using hn
    subst this
    simp only [spec_l1Many.l0]
    rw [if_neg (by omega)]
    exact ⟨_, rfl, by simp⟩
  | succ f ih =>
    intro k n s out hn hk hf hs ho
    obtain ⟨k, rfl⟩ : ∃ m, k = m + 1 := ⟨k - 1, by omega⟩
    simp only [spec_l1Many.l0]
    have hn20 : n < 2 ^ 20 := Nat.lt_of_lt_of_le hn (Nat.pow_le_pow_right (by omega) hf)
    have e0 : s.size * 2 ^ (f + 1) = (s.size + s.size) * 2 ^ f := by rw [Nat.pow_succ, ← Nat.mul_assoc, Nat.add_mul]; omega
    have e1 : s.size ≤ s.size * 2 ^ (f + 1) := Nat.le_mul_of_pos_right _ (Nat.pow_pos (by omega))
    have e2 : s.size + s.size ≤ s.size * 2 ^ (f + 1) := by rw [e0]; exact Nat.le_mul_of_pos_right _ (Nat.pow_pos (by omega))
    by_cases h0 : n = 0
    · subst h0
      rw [if_neg (by omega)]
      exact ⟨_, rfl, by simp⟩
    · rw [if_pos (by omega), show Int.tmod (n : Int) 2 = ((n % 2 : Nat) : Int) by rw [Int.tmod_eq_emod_of_nonneg (by omega)]; omega, show wrap64 (Int.tdiv (n : Int) 2) = ((n / 2 : Nat) : Int) by rw [Int.tdiv_eq_ediv_of_nonneg (by omega), w64 (by omega) (by omega)]; omega]
      have hh : n / 2 < 2 ^ f := by rw [Nat.pow_succ] at hn; omega
      have hd : (s ++ s).size * 2 ^ f = s.size * 2 ^ (f + 1) := by rw [e0, ByteArray.size_append]
      by_cases h1 : n % 2 = 1
      · rw [if_pos (by omega), if_pos (by omega), if_pos (by omega)]
        obtain ⟨t, h2, h3⟩ := ih k (n / 2) (s ++ s) (out ++ s) hh (by omega) (by omega) (by omega) (by rw [ByteArray.size_append]; omega)
        refine ⟨t, h2, ?_⟩
        rw [h3, ByteArray.size_append, ByteArray.size_append]
        have : s.size * n = (s.size + s.size) * (n / 2) + s.size := by
          conv => lhs; rw [show n = 2 * (n / 2) + 1 by omega]
          rw [Nat.mul_add, ← Nat.mul_assoc, Nat.mul_comm s.size 2, Nat.two_mul, Nat.mul_one]
        omega
      · rw [if_neg (by omega), if_pos (by omega)]
        obtain ⟨t, h2, h3⟩ := ih k (n / 2) (s ++ s) out hh (by omega) (by omega) (by omega) (by omega)
        refine ⟨t, h2, ?_⟩
        rw [h3, ByteArray.size_append]
        have : s.size * n = (s.size + s.size) * (n / 2) := by
          conv => lhs; rw [show n = 2 * (n / 2) by omega]
          rw [← Nat.mul_assoc, Nat.mul_comm s.size 2, Nat.two_mul]
        omega
theorem many_ok {k n : Nat} (hk : 17 ≤ k) (hn : n < 65536) (s : ByteArray) (hs : s.size ≤ 10000000) : ∃ t, spec_l1Many.f k s (n : Int) = some t ∧ t.size = s.size * n := by
  unfold spec_l1Many.f
  obtain ⟨t, h1, h2⟩ := many_l 16 k n s ⟨#[]⟩ hn (by omega) (by omega) (by omega) (by rw [show (⟨#[]⟩ : ByteArray).size = 0 from rfl]; omega)
  exact ⟨t, h1, by rw [h2, show (⟨#[]⟩ : ByteArray).size = 0 from rfl]; omega⟩
theorem open_ok (l : List Int) (h : Bytes8 l) : ∃ b, spec_l1Open.f l = some (b, 0) ∧ Rdr b 0 0 := by
  unfold spec_l1Open.f
  by_cases hl : (l.length : Int) > 2000
  · rw [if_pos hl, if_pos (by omega)]
    exact ⟨_, rfl, h.take 2000, by rw [List.length_take]; omega, by omega, by omega⟩
  · rw [if_neg hl]
    exact ⟨_, rfl, h, by omega, by omega, by omega⟩
end Go.Proofs.Ytfbhlofifodkjaa.Q
