/- The reader of a code never fails: each pick, word, digest and text that it draws is there, within its bounds. Condition: the reader has gone fewer than 2^39 steps. -/
import Derived.Test.YtemfciflhbhobaaQHash
import Derived.Test.YtemfciflhbhobaaGL11
namespace Go.Proofs.Ytemfciflhbhobaa.Q
open Go.RowKit Go.Proofs.Ytemfciflhbhobaa.B Go.Proofs.YtemfciflhbhobaaW.PrintWords Go.Proofs.YtemfciflhbhobaaW.PrintLast Go.Proofs.YtemfciflhbhobaaW.PrintMore
theorem xor_nat (a b : Nat) (ha : a < 2 ^ 62) (hb : b < 2 ^ 62) : Go.bits .xor .i64 (a : Int) (b : Int) = ((a ^^^ b : Nat) : Int) := by
  have hx : a ^^^ b < 2 ^ 62 := Nat.xor_lt_two_pow ha hb
  have ha' : a % 2 ^ IntKind.i64.bits = a := Nat.mod_eq_of_lt (Nat.lt_of_lt_of_le ha (by decide))
  have hb' : b % 2 ^ IntKind.i64.bits = b := Nat.mod_eq_of_lt (Nat.lt_of_lt_of_le hb (by decide))
  simp only [Go.bits, BitVec.ofInt_natCast, BitVec.toNat_xor, BitVec.toNat_ofNat, ha', hb']
  generalize a ^^^ b = c at *
  rw [IntKind.wrap_i64]
  omega
theorem rd_8 {b : List Int} (h : Bytes8 b) (i : Int) : 0 ≤ rd b i ∧ rd b i ≤ 255 := by
  unfold rd
  by_cases hi : i.toNat < b.length
  · have : b.getD i.toNat 0 = b[i.toNat] := by simp [List.getD, List.getElem?_eq_getElem hi]
    rw [this]
    exact h _ (List.getElem_mem hi)
  · have : b.getD i.toNat 0 = 0 := by simp [List.getD, List.getElem?_eq_none (by omega : b.length ≤ i.toNat)]
    rw [this]
    omega
/-- A reader of bytes b at p, within m. -/
structure Rdr (b : List Int) (p m : Int) : Prop where
  bytes : Bytes8 b
  len : b.length ≤ 2000
  low : 0 ≤ p
  high : p ≤ m
theorem Rdr.more {b : List Int} {p m q n : Int} (h : Rdr b p m) (h0 : p ≤ q) (h1 : q - p ≤ n - m) : Rdr b q n := ⟨h.bytes, h.len, by have := h.low; omega, by have := h.high; omega⟩
theorem mix_ok {a c q e : Int} (ha : 0 ≤ a ∧ a ≤ 255) (hc : 0 ≤ c ∧ c ≤ 255) (hq : 0 ≤ q ∧ q ≤ 1000000000000) (he : 0 ≤ e ∧ e ≤ q) :
    ∃ v : Nat, Go.bits .xor .i64 (wrap64 ((wrap64 ((wrap64 ((wrap64 ((wrap64 a) * 131)) + (wrap64 ((wrap64 c) * 1117)))) + (wrap64 (q * 29)))) + (wrap64 ((wrap64 e) * 53)))) (wrap64 (Int.tdiv (wrap64 ((wrap64 ((wrap64 ((wrap64 ((wrap64 a) * 131)) + (wrap64 ((wrap64 c) * 1117)))) + (wrap64 (q * 29)))) + (wrap64 ((wrap64 e) * 53)))) 64)) = (v : Int) := by
  have hx : wrap64 ((wrap64 ((wrap64 ((wrap64 ((wrap64 a) * 131)) + (wrap64 ((wrap64 c) * 1117)))) + (wrap64 (q * 29)))) + (wrap64 ((wrap64 e) * 53))) = a * 131 + c * 1117 + q * 29 + e * 53 := by
    rw [w64 (x := a) (by omega) (by omega), w64 (x := c) (by omega) (by omega), w64 (x := e) (by omega) (by omega), w64 (x := a * 131) (by omega) (by omega), w64 (x := c * 1117) (by omega) (by omega),
      w64 (x := q * 29) (by omega) (by omega), w64 (x := e * 53) (by omega) (by omega), w64 (x := a * 131 + c * 1117) (by omega) (by omega), w64 (x := a * 131 + c * 1117 + q * 29) (by omega) (by omega), w64 (by omega) (by omega)]
  rw [hx]
  obtain ⟨x, hx2⟩ : ∃ x : Nat, a * 131 + c * 1117 + q * 29 + e * 53 = (x : Int) := ⟨(a * 131 + c * 1117 + q * 29 + e * 53).toNat, by omega⟩
  have hb : x < 2 ^ 62 := by omega
  rw [hx2, Int.tdiv_eq_ediv_of_nonneg (by omega), w64 (by omega) (by omega), show (x : Int) / 64 = ((x / 64 : Nat) : Int) by omega, xor_nat _ _ hb (by omega)]
  exact ⟨_, rfl⟩
theorem pick_ok {k : Nat} (hk : 1 ≤ k) {b : List Int} {p m : Int} (h : Rdr b p m) (hm : m ≤ 900000000000) (n : Int) : ∃ v, spec_l1Rd_pick.f k b p n = some (v, p + 1) ∧ 0 ≤ v ∧ (1 ≤ n → v < n) ∧ (n < 1 → v = 0) := by
  obtain ⟨k, rfl⟩ : ∃ m, k = m + 1 := ⟨k - 1, by omega⟩
  have h1 := h.low
  have h2 := h.high
  have h3 := h.len
  unfold spec_l1Rd_pick.f
  rw [show wrap64 (p + 1) = p + 1 by unfold wrap64; omega]
  by_cases hn : n < 1
  · rw [if_pos hn]
    simp only [spec_l1Rd_pick.j0, if_true]
    exact ⟨0, rfl, by omega, by omega, fun _ => rfl⟩
  · rw [if_neg hn]
    by_cases h0 : b.length = 0
    · rw [show ((b.length : Int) == 0) = true by simp [h0]]
      simp only [spec_l1Rd_pick.j0, if_true]
      exact ⟨0, rfl, by omega, by omega, fun _ => rfl⟩
    · rw [show ((b.length : Int) == 0) = false by rw [beq_eq_false_iff_ne]; omega]
      simp only [spec_l1Rd_pick.j0, Bool.false_eq_true, if_false]
      rw [show wrap64 (p + 1 - 1) = p by unfold wrap64; omega]
      by_cases hp : p < (b.length : Int)
      · have := rd_8 h.bytes p
        rw [if_pos hp, if_pos h1, if_neg (by omega), w64 (by omega) (by omega)]
        exact ⟨_, rfl, Int.tmod_nonneg _ (by omega), fun _ => Int.tmod_lt_of_pos _ (by omega), by omega⟩
      · have l0 : 0 < (b.length : Int) := by omega
        have t0 := Int.tmod_nonneg (b.length : Int) h1
        have t1 := Int.tmod_lt_of_pos p l0
        have q0 : wrap64 (wrap64 (p * 7) + 3) = p * 7 + 3 := by rw [w64 (x := p * 7) (by omega) (by omega), w64 (by omega) (by omega)]
        have t2 := Int.tmod_nonneg (b.length : Int) (show (0 : Int) ≤ p * 7 + 3 by omega)
        have t3 := Int.tmod_lt_of_pos (p * 7 + 3) l0
        have d0 : 0 ≤ p.tdiv (b.length : Int) := Int.tdiv_nonneg h1 (by omega)
        have d1 : p.tdiv (b.length : Int) ≤ p := by rw [Int.tdiv_eq_ediv_of_nonneg h1]; exact Int.ediv_le_self _ h1
        rw [if_neg hp, if_neg (by omega), if_pos t0, if_pos t1, q0, if_pos t2, if_pos t3, if_neg (by omega), show wrap64 (p.tdiv (b.length : Int)) = wrap64 (p.tdiv (b.length : Int)) from rfl]
        obtain ⟨v, hv⟩ := mix_ok (rd_8 h.bytes (p.tmod (b.length : Int))) (rd_8 h.bytes ((p * 7 + 3).tmod (b.length : Int))) ⟨h1, by omega⟩ ⟨d0, d1⟩
        rw [hv]
        exact ⟨_, rfl, Int.tmod_nonneg _ (by omega), fun _ => Int.tmod_lt_of_pos _ (by omega), by omega⟩
theorem text_l (j : Nat) : ∀ (k : Nat) (acc : List Int) (b : List Int) (p m : Int), j + 1 < k → Rdr b p m → acc.length + j ≤ 1000000 → m + j ≤ 800000000000 → ∃ s q, spec_l1Rd_text.l0 k acc (j : Int) b p = some (s, q) ∧ s.size = acc.length + j ∧ Rdr b q (m + j) ∧ p ≤ q := by
  induction j with
  | zero =>
    intro k acc b p m hk h ha hm
    obtain ⟨k, rfl⟩ : ∃ m, k = m + 1 := ⟨k - 1, by omega⟩
    simp only [spec_l1Rd_text.l0]
    rw [if_neg (by omega)]
    exact ⟨_, _, rfl, by rw [str_size]; omega, h.more (by omega) (by omega), by omega⟩
  | succ j ih =>
    intro k acc b p m hk h ha hm
    obtain ⟨k, rfl⟩ : ∃ m, k = m + 1 := ⟨k - 1, by omega⟩
    simp only [spec_l1Rd_text.l0]
    obtain ⟨v, hv, _⟩ := pick_ok (k := k) (by omega) h (by omega) 256
    rw [if_pos (by omega), hv]
    simp only [Option.bind_some]
    rw [if_pos (by omega), show wrap64 (((j + 1 : Nat) : Int) - 1) = (j : Int) by unfold wrap64; omega]
    obtain ⟨s, q, h1, h2, h3, h4⟩ := ih k (acc ++ [v % 256]) b (p + 1) (m + 1) (by omega) (h.more (by omega) (by omega)) (by simp; omega) (by omega)
    exact ⟨s, q, h1, by rw [h2]; simp; omega, h3.more (by omega) (by omega), by omega⟩
theorem text_ok {k : Nat} {n : Nat} (hn : n ≤ 100000) (hk : n + 2 < k) {b : List Int} {p m : Int} (h : Rdr b p m) (hm : m ≤ 600000000000) : ∃ s q, spec_l1Rd_text.f k b p (n : Int) = some (s, q) ∧ s.size ≤ n ∧ Rdr b q (m + n + 1) ∧ p ≤ q := by
  unfold spec_l1Rd_text.f
  rw [show wrap64 ((n : Int) + 1) = ((n + 1 : Nat) : Int) by unfold wrap64; omega]
  obtain ⟨v, hv, v0, v1, _⟩ := pick_ok (k := k) (by omega) h (by omega) ((n + 1 : Nat) : Int)
  rw [hv]
  simp only [Option.bind_some]
  obtain ⟨j, rfl⟩ : ∃ j : Nat, v = j := ⟨v.toNat, by omega⟩
  have := v1 (by omega)
  obtain ⟨s, q, h1, h2, h3, h4⟩ := text_l j k [] b (p + 1) (m + 1) (by omega) (h.more (by omega) (by omega)) (by simp; omega) (by omega)
  exact ⟨s, q, h1, by rw [h2]; simp; omega, h3.more (by omega) (by omega), by omega⟩
theorem many_l (f : Nat) : ∀ (k n : Nat) (s out : ByteArray), n < 2 ^ f → f < k → f ≤ 20 → s.size * 2 ^ f ≤ 1000000000000 → out.size ≤ 1000000000000000 - 1000000000000 * f → ∃ t, spec_l1Many.l0 k s (n : Int) out = some t ∧ t.size = out.size + s.size * n := by
  induction f with
  | zero =>
    intro k n s out hn hk _ hs ho
    obtain ⟨k, rfl⟩ : ∃ m, k = m + 1 := ⟨k - 1, by omega⟩
    have : n = 0 := by simpa using hn
    subst this
    simp only [spec_l1Many.l0]
    rw [if_neg (by omega)]
    exact ⟨_, rfl, by simp⟩
  | succ f ih =>
    intro k n s out hn hk hf hs ho
    obtain ⟨k, rfl⟩ : ∃ m, k = m + 1 := ⟨k - 1, by omega⟩
    simp only [spec_l1Many.l0]
    have hn20 : n < 2 ^ 20 := Nat.lt_of_lt_of_le hn (Nat.pow_le_pow_right (by omega) hf)
    have e0 : s.size * 2 ^ (f + 1) = (s.size + s.size) * 2 ^ f := by rw [Nat.pow_succ, ← Nat.mul_assoc, Nat.add_mul]; omega
    have e1 : s.size ≤ s.size * 2 ^ (f + 1) := Nat.le_mul_of_pos_right _ (Nat.pow_pos (by omega))
    have e2 : s.size + s.size ≤ s.size * 2 ^ (f + 1) := by rw [e0]; exact Nat.le_mul_of_pos_right _ (Nat.pow_pos (by omega))
    by_cases h0 : n = 0
    · subst h0
      rw [if_neg (by omega)]
      exact ⟨_, rfl, by simp⟩
    · rw [if_pos (by omega), show Int.tmod (n : Int) 2 = ((n % 2 : Nat) : Int) by rw [Int.tmod_eq_emod_of_nonneg (by omega)]; omega, show wrap64 (Int.tdiv (n : Int) 2) = ((n / 2 : Nat) : Int) by rw [Int.tdiv_eq_ediv_of_nonneg (by omega), w64 (by omega) (by omega)]; omega]
      have hh : n / 2 < 2 ^ f := by rw [Nat.pow_succ] at hn; omega
      have hd : (s ++ s).size * 2 ^ f = s.size * 2 ^ (f + 1) := by rw [e0, ByteArray.size_append]
      by_cases h1 : n % 2 = 1
      · rw [if_pos (by omega), if_pos (by omega), if_pos (by omega)]
        obtain ⟨t, h2, h3⟩ := ih k (n / 2) (s ++ s) (out ++ s) hh (by omega) (by omega) (by omega) (by rw [ByteArray.size_append]; omega)
        refine ⟨t, h2, ?_⟩
        rw [h3, ByteArray.size_append, ByteArray.size_append]
        have : s.size * n = (s.size + s.size) * (n / 2) + s.size := by
          conv => lhs; rw [show n = 2 * (n / 2) + 1 by omega]
          rw [Nat.mul_add, ← Nat.mul_assoc, Nat.mul_comm s.size 2, Nat.two_mul, Nat.mul_one]
        omega
      · rw [if_neg (by omega), if_pos (by omega)]
        obtain ⟨t, h2, h3⟩ := ih k (n / 2) (s ++ s) out hh (by omega) (by omega) (by omega) (by omega)
        refine ⟨t, h2, ?_⟩
        rw [h3, ByteArray.size_append]
        have : s.size * n = (s.size + s.size) * (n / 2) := by
          conv => lhs; rw [show n = 2 * (n / 2) by omega]
          rw [← Nat.mul_assoc, Nat.mul_comm s.size 2, Nat.two_mul]
        omega
theorem many_ok {k n : Nat} (hk : 17 ≤ k) (hn : n < 65536) (s : ByteArray) (hs : s.size ≤ 10000000) : ∃ t, spec_l1Many.f k s (n : Int) = some t ∧ t.size = s.size * n := by
  unfold spec_l1Many.f
  obtain ⟨t, h1, h2⟩ := many_l 16 k n s ⟨#[]⟩ hn (by omega) (by omega) (by omega) (by rw [show (⟨#[]⟩ : ByteArray).size = 0 from rfl]; omega)
  exact ⟨t, h1, by rw [h2, show (⟨#[]⟩ : ByteArray).size = 0 from rfl]; omega⟩
theorem open_ok (l : List Int) (h : Bytes8 l) : ∃ b, spec_l1Open.f l = some (b, 0) ∧ Rdr b 0 0 := by
  unfold spec_l1Open.f
  by_cases hl : (l.length : Int) > 2000
  · rw [if_pos hl, if_pos (by omega)]
    exact ⟨_, rfl, h.take 2000, by rw [List.length_take]; omega, by omega, by omega⟩
  · rw [if_neg hl]
    exact ⟨_, rfl, h, by omega, by omega, by omega⟩
end Go.Proofs.Ytemfciflhbhobaa.Q
