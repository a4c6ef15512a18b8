/- Drawn leaves: there are always some, at most 300, of at most 100 bytes each. Condition: the reader has gone fewer than 2^39 steps. -/
import Derived.Test.YtemfciflhbhobaaQDraw
import Derived.Test.YtemfciflhbhobaaQList
import Derived.Test.YtemfciflhbhobaaFSpecL2RdSome
namespace Go.Proofs.Ytemfciflhbhobaa.Q
open Go.RowKit Go.Proofs.Ytemfciflhbhobaa.B Go.Proofs.YtemfciflhbhobaaW.PrintWords Go.Proofs.YtemfciflhbhobaaW.PrintLast Go.Proofs.YtemfciflhbhobaaW.PrintMore
set_option linter.unusedVariables false
theorem bsd {α β : Type} {x : Option α} {v : α} {F : α → Option β} {r : Option β} (h : x = some v) (k : F v = r) : x.bind F = r := by rw [h]; exact k
theorem leaf_ok {k : Nat} (hk : 100 ≤ k) {b : List Int} {p m : Int} (h : Rdr b p m) (hm : m ≤ 500000000000) : ∃ s q, spec_l2Rd_leaf.f k b p = some (s, q) ∧ s.size ≤ 100 ∧ Rdr b q (m + 7) ∧ p ≤ q := by
  obtain ⟨v, e, v0, v1, v2⟩ := pick_ok (k := k) (by omega) h (by omega) 10
  have h1 : Rdr b (p + 1) (m + 1) := h.more (by omega) (by omega)
  unfold spec_l2Rd_leaf.f
  by_cases c : v = 0
  · obtain ⟨t, e2, ht⟩ := many_ok (k := k) (n := 40) (by omega) (by omega) (⟨#[109]⟩ : ByteArray) (by decide)
    refine ⟨t, p + 1, ?_, by rw [ht]; decide, h.more (by omega) (by omega), by omega⟩
    refine bsd e ?_
    rw [if_pos c]
    exact bsd e2 rfl
  · obtain ⟨s, q, e2, hs, hr, hq⟩ := text_ok (k := k) (n := 5) (by omega) (by omega) h1 (by omega)
    refine ⟨s, q, ?_, by omega, ?_, by omega⟩
    · refine bsd e ?_
      rw [if_neg c]
      exact bsd e2 rfl
    · have : m + 1 + ((5 : Nat) : Int) + 1 = m + 7 := by omega
      rw [← this]
      exact hr
theorem leaves_l (n : Nat) : ∀ (k i : Nat) (acc : List ByteArray) (b : List Int) (p m : Int), n + 101 ≤ k → Rdr b p m → m + 7 * n ≤ 400000000000 → acc.length + n ≤ 100000 → i + n ≤ 100000 → (∀ s ∈ acc, s.size ≤ 100) →
    ∃ l q, spec_l2Rd_leaves.l0 k ((i + n : Nat) : Int) acc (i : Int) b p = some (l, q) ∧ l.length = acc.length + n ∧ (∀ s ∈ l, s.size ≤ 100) ∧ Rdr b q (m + 7 * n) ∧ p ≤ q := by
  induction n with
  | zero =>
    intro k i acc b p m hk h hm ha hi hs
    obtain ⟨k, rfl⟩ : ∃ m, k = m + 1 := ⟨k - 1, by omega⟩
    simp only [spec_l2Rd_leaves.l0]
    rw [if_neg (by omega)]
    exact ⟨acc, p, rfl, rfl, hs, h.more (by omega) (by omega), by omega⟩
  | succ n ih =>
    intro k i acc b p m hk h hm ha hi hs
    obtain ⟨k, rfl⟩ : ∃ m, k = m + 1 := ⟨k - 1, by omega⟩
    obtain ⟨s, q, e, hsz, hr, hq⟩ := leaf_ok (k := k) (by omega) h (by omega)
    obtain ⟨l, q2, e2, hl, hs2, hr2, hq2⟩ := ih k (i + 1) (acc ++ [s]) b q (m + 7) (by omega) hr (by omega) (by simp; omega) (by omega) (by
      intro x hx
      rcases List.mem_append.1 hx with hx | hx
      · exact hs x hx
      · rw [List.mem_singleton.1 hx]; exact hsz)
    refine ⟨l, q2, ?_, by rw [hl, List.length_append, List.length_singleton]; omega, hs2, ?_, by omega⟩
    · simp only [spec_l2Rd_leaves.l0]
      rw [if_pos (by omega)]
      refine bsd e ?_
      rw [if_pos (by omega), step64 (by omega), show i + (n + 1) = i + 1 + n by omega]
      exact e2
    · have : m + 7 + 7 * (n : Int) = m + 7 * ((n + 1 : Nat) : Int) := by omega
      rw [← this]
      exact hr2
theorem leaves_ok {k n : Nat} (hk : n + 101 ≤ k) {b : List Int} {p m : Int} (h : Rdr b p m) (hm : m + 7 * n ≤ 400000000000) (hn : n ≤ 1000) :
    ∃ l q, spec_l2Rd_leaves.f k b p (n : Int) = some (l, q) ∧ l.length = n ∧ (∀ s ∈ l, s.size ≤ 100) ∧ Rdr b q (m + 7 * n) ∧ p ≤ q := by
  obtain ⟨l, q, e, hl, hs, hr, hq⟩ := leaves_l n k 0 [] b p m hk h hm (by simp; omega) (by omega) (by simp)
  rw [Nat.zero_add] at e
  exact ⟨l, q, e, by simpa using hl, hs, hr, hq⟩
theorem size_ok {k : Nat} (hk : 1 ≤ k) {b : List Int} {p m : Int} (h : Rdr b p m) (hm : m ≤ 500000000000) : ∃ (v : Nat) (q : Int), spec_l2Rd_size.f k b p = some ((v : Int), q) ∧ v ≤ 70 ∧ Rdr b q (m + 2) ∧ p ≤ q := by
  obtain ⟨v, e, v0, v1, v2⟩ := pick_ok (k := k) (by omega) h (by omega) 9
  have h1 : Rdr b (p + 1) (m + 1) := h.more (by omega) (by omega)
  unfold spec_l2Rd_size.f
  by_cases c : v = 0
  · obtain ⟨u, e2, u0, u1, u2⟩ := pick_ok (k := k) (by omega) h1 (by omega) 70
    refine ⟨u.toNat, p + 1 + 1, ?_, by omega, h.more (by omega) (by omega), by omega⟩
    refine bsd e ?_
    rw [if_pos c]
    refine bsd e2 ?_
    rw [Int.toNat_of_nonneg u0]
  · obtain ⟨u, e2, u0, u1, u2⟩ := pick_ok (k := k) (by omega) h1 (by omega) 20
    refine ⟨u.toNat, p + 1 + 1, ?_, by omega, h.more (by omega) (by omega), by omega⟩
    refine bsd e ?_
    rw [if_neg c]
    refine bsd e2 ?_
    rw [Int.toNat_of_nonneg u0]
theorem full_l (n : Nat) : ∀ (k i : Nat) (acc : List ByteArray), n + 1 ≤ k → acc.length + n ≤ 100000 → i + n ≤ 100000 → (∀ s ∈ acc, s.size ≤ 100) →
    ∃ l, spec_l2Full.l0 k ((i + n : Nat) : Int) acc (i : Int) = some l ∧ l.length = acc.length + n ∧ ∀ s ∈ l, s.size ≤ 100 := by
  induction n with
  | zero =>
    intro k i acc hk ha hi hs
    obtain ⟨k, rfl⟩ : ∃ m, k = m + 1 := ⟨k - 1, by omega⟩
    simp only [spec_l2Full.l0]
    rw [if_neg (by omega)]
    exact ⟨acc, rfl, rfl, hs⟩
  | succ n ih =>
    intro k i acc hk ha hi hs
    obtain ⟨k, rfl⟩ : ∃ m, k = m + 1 := ⟨k - 1, by omega⟩
    obtain ⟨l, e, hl, hs2⟩ := ih k (i + 1) (acc ++ [⟨#[]⟩]) (by omega) (by simp; omega) (by omega) (by
      intro x hx
      rcases List.mem_append.1 hx with hx | hx
      · exact hs x hx
      · rw [List.mem_singleton.1 hx]; decide)
    refine ⟨l, ?_, by rw [hl, List.length_append, List.length_singleton]; omega, hs2⟩
    simp only [spec_l2Full.l0]
    rw [if_pos (by omega), if_pos (by omega), step64 (by omega), show i + (n + 1) = i + 1 + n by omega]
    exact e
theorem full_ok {k n : Nat} (hk : n + 1 ≤ k) (hn : n ≤ 1000) : ∃ l, spec_l2Full.f k (n : Int) = some l ∧ l.length = n ∧ ∀ s ∈ l, s.size ≤ 100 := by
  obtain ⟨l, e, hl, hs⟩ := full_l n k 0 [] hk (by simp; omega) (by omega) (by simp)
  rw [Nat.zero_add] at e
  exact ⟨l, e, by simpa using hl, hs⟩
theorem some_ok {k : Nat} (hk : 1000 ≤ k) {b : List Int} {p m : Int} (h : Rdr b p m) (hm : m ≤ 300000000000) :
    ∃ l q, spec_l2Rd_some.f k b p = some (l, q) ∧ l.length ≤ 300 ∧ (∀ s ∈ l, s.size ≤ 100) ∧ Rdr b q (m + 1000) ∧ p ≤ q := by
  obtain ⟨v, e, v0, v1, v2⟩ := pick_ok (k := k) (by omega) h (by omega) 24
  have h1 : Rdr b (p + 1) (m + 1) := h.more (by omega) (by omega)
  unfold spec_l2Rd_some.f
  by_cases c : v = 0
  · obtain ⟨u, e2, u0, u1, u2⟩ := pick_ok (k := k) (by omega) h1 (by omega) 2
    obtain ⟨l, e3, hl, hs⟩ := full_ok (k := k) (n := 256 + u.toNat) (by omega) (by omega)
    refine ⟨l, p + 1 + 1, ?_, by omega, hs, h.more (by omega) (by omega), by omega⟩
    refine bsd e ?_
    rw [if_pos c]
    refine bsd e2 ?_
    rw [show wrap64 (256 + u) = ((256 + u.toNat : Nat) : Int) by unfold wrap64; omega]
    exact bsd e3 rfl
  · obtain ⟨n, q, e2, hn, hr, hq⟩ := size_ok (k := k) (by omega) h1 (by omega)
    obtain ⟨l, q2, e3, hl, hs, hr2, hq2⟩ := leaves_ok (k := k) (n := n) (by omega) hr (by omega) (by omega)
    by_cases c1 : v = 1
    · obtain ⟨t, e4, ht⟩ := many_ok (k := k) (n := 41) (by omega) (by omega) (⟨#[108]⟩ : ByteArray) (by decide)
      refine ⟨l ++ [t], q2, ?_, by simp; omega, ?_, hr2.more (by have := hr2.low; omega) (by omega), by omega⟩
      · refine bsd e ?_
        rw [if_neg c]
        refine bsd e2 (bsd e3 ?_)
        rw [if_pos c1]
        refine bsd e4 ?_
        dsimp only
        rw [if_pos (by omega)]
      · intro x hx
        rcases List.mem_append.1 hx with hx | hx
        · exact hs x hx
        · rw [List.mem_singleton.1 hx, ht]; decide
    · refine ⟨l, q2, ?_, by omega, hs, hr2.more (by have := hr2.low; omega) (by omega), by omega⟩
      refine bsd e ?_
      rw [if_neg c]
      refine bsd e2 (bsd e3 ?_)
      rw [if_neg c1]
end Go.Proofs.Ytemfciflhbhobaa.Q
