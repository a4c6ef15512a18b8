/- The laws' own readers of a code (more, at) and bare as plain functions. Condition: the code has at most 2^20 bytes. -/
import Derived.Test.YtfbhlofifodkjaaQApart
import Derived.Test.YtfbhlofifodkjaaFLawsMore
import Derived.Test.YtfbhlofifodkjaaFLawsAt
import Derived.Test.YtfbhlofifodkjaaFLawsBare
namespace Go.Proofs.Ytfbhlofifodkjaa.Q
open Go.RowKit Go.Proofs.Ytfbhlofifodkjaa.B Go.Proofs.YtfbhlofifodkjaaW.PrintWords Go.Proofs.YtfbhlofifodkjaaW.PrintLast Go.Proofs.YtfbhlofifodkjaaW.PrintMore
theorem more_l (n : Nat) : ∀ (k : Nat) (l acc : List Int) (i : Nat), l.length = i + n → n < k → n + acc.length ≤ 10000000000 → l.length ≤ 10000000000 → laws_more.l0 k l acc (i : Int) = some (acc ++ l.drop i) := by
  induction n with
  | zero =>
    intro k l acc i hl hk _ _
    obtain ⟨k, rfl⟩ : ∃ m, k = m + 1 := ⟨k - 1, by omega⟩
    simp only [laws_more.l0]
    rw [if_neg (by omega), List.drop_of_length_le (by omega), List.append_nil]
  | succ n ih =>
    intro k l acc i hl hk hb hl2
    obtain ⟨k, rfl⟩ : ∃ m, k = m + 1 := ⟨k - 1, by omega⟩
    simp only [laws_more.l0]
    rw [if_pos (by omega), if_pos (by omega), if_pos (by omega), rd_nat (by omega), show wrap64 ((i : Int) + 1) = ((i + 1 : Nat) : Int) by unfold wrap64; omega]
    rw [ih k l _ (i + 1) (by omega) (by omega) (by simp; omega) hl2, List.append_assoc, List.drop_eq_getElem_cons (by omega : i < l.length)]
    rfl
theorem more_ok {k : Nat} (l : List Int) (c : Int) (hl : l.length ≤ 1048576) (hk : l.length < k) : laws_more.f k l c = some (c :: l) := by
  unfold laws_more.f
  have := more_l l.length k l [c] 0 (by omega) hk (by simp; omega) (by omega)
  simpa using this
theorem at_ok (l : List Int) (h : Bytes8 l) (n : Nat) (hn : n ≤ 1000000) (hl : l.length ≤ 1048576) : ∃ v, laws_at.f l (n : Int) = some v ∧ 0 ≤ v ∧ v ≤ 255 := by
  unfold laws_at.f
  by_cases h0 : l.length = 0
  · rw [if_pos (by omega)]
    exact ⟨_, rfl, by omega, by omega⟩
  · rw [if_neg (by omega)]
    by_cases h1 : n < l.length
    · rw [if_pos (by omega), if_pos (by omega)]
      have := rd_8 h (n : Int)
      exact ⟨_, rfl, this.1, this.2⟩
    · have l0 : 0 < (l.length : Int) := by omega
      have t0 := Int.tmod_nonneg (l.length : Int) (show (0 : Int) ≤ (n : Int) by omega)
      have t1 := Int.tmod_lt_of_pos (n : Int) l0
      have q0 : wrap64 (wrap64 ((n : Int) * 5) + 1) = (n : Int) * 5 + 1 := by rw [w64 (x := (n : Int) * 5) (by omega) (by omega), w64 (by omega) (by omega)]
      have t2 := Int.tmod_nonneg (l.length : Int) (show (0 : Int) ≤ (n : Int) * 5 + 1 by omega)
      have t3 := Int.tmod_lt_of_pos ((n : Int) * 5 + 1) l0
      rw [if_neg (by omega), if_pos t0, if_pos t1, q0, if_pos t2, if_pos t3]
      exact ⟨_, rfl, by omega, by omega⟩
theorem str_one (s : ByteArray) (i : Nat) (h : i < s.size) : bytesOf (s.extract i (i + 1)) = [(bytesOf s)[i]'(by rw [bytesOf_size]; exact h)] := by
  have hs := bytesOf_size s
  rw [bytesOf_extract, List.drop_take, List.drop_eq_getElem_cons (by omega : i < (bytesOf s).length), show i + 1 - i = 1 by omega]
  rfl
theorem bare_l (n : Nat) : ∀ (k : Nat) (s acc : ByteArray) (i : Nat), s.size = i + n → n < k → n + acc.size ≤ 10000000000 → s.size ≤ 10000000000 → ∃ r, laws_bare.l0 k s acc (i : Int) = some r ∧ bytesOf r = bytesOf acc ++ bareL ((bytesOf s).drop i) := by
  induction n with
  | zero =>
    intro k s acc i hs hk _ _
    obtain ⟨k, rfl⟩ : ∃ m, k = m + 1 := ⟨k - 1, by omega⟩
    simp only [laws_bare.l0]
    have hb := bytesOf_size s
    rw [if_neg (by omega), List.drop_of_length_le (by omega)]
    exact ⟨_, rfl, by simp [bareL]⟩
  | succ n ih =>
    intro k s acc i hs hk ha hs2
    obtain ⟨k, rfl⟩ : ∃ m, k = m + 1 := ⟨k - 1, by omega⟩
    simp only [laws_bare.l0]
    have hb := bytesOf_size s
    have e1 : (s.extract i (i + 1)).size = 1 := by rw [ByteArray.size_extract]; omega
    rw [if_pos (by omega), if_pos (by omega), show wrap64 ((i : Int) + 1) = ((i + 1 : Nat) : Int) by unfold wrap64; omega, bt_nat (by omega : i < (bytesOf s).length), List.drop_eq_getElem_cons (by omega : i < (bytesOf s).length)]
    by_cases h255 : (bytesOf s)[i] = 255
    · rw [if_pos h255, bareL_eq _ h255]
      exact ih k s acc (i + 1) (by omega) (by omega) (by omega) hs2
    · rw [if_neg h255, bareL_ne _ h255, if_pos (by omega), if_pos (by omega), Int.toNat_natCast, Int.toNat_natCast, if_pos (by omega)]
      obtain ⟨r, h1, h2⟩ := ih k s (acc ++ s.extract i (i + 1)) (i + 1) (by omega) (by omega) (by rw [ByteArray.size_append]; omega) hs2
      refine ⟨r, h1, ?_⟩
      rw [h2, bytesOf_append, str_one s i (by omega), List.append_assoc]
      rfl
theorem bare_ok {k : Nat} (s : ByteArray) (hs : s.size ≤ 10000000000) (hk : s.size < k) : ∃ r, laws_bare.f k s = some r ∧ bytesOf r = bareL (bytesOf s) := by
  unfold laws_bare.f
  obtain ⟨r, h1, h2⟩ := bare_l s.size k s ⟨#[]⟩ 0 (by omega) hk (by rw [show (⟨#[]⟩ : ByteArray).size = 0 from rfl]; omega) hs
  exact ⟨r, h1, by simpa [bytesOf] using h2⟩
theorem bareL_not {l : List Int} : ∀ x ∈ bareL l, x ≠ 255 := by
  intro x hx
  have := (List.mem_filter.1 hx).2
  simpa using this
end Go.Proofs.Ytfbhlofifodkjaa.Q
