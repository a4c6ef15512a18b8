/- The peaks of a list of leaves as a plain list; TreePeaks of the program and of the reference come to it. Condition: the leaves are ok. -/
import Derived.Test.YtemfciflhbhobaaQTree
import Derived.Test.YtemfciflhbhobaaQLeaves
import Derived.Test.YtemfciflhbhobaaGRuns1
namespace Go.Proofs.Ytemfciflhbhobaa.Q
open Go.RowKit Go.Proofs.Ytemfciflhbhobaa.B Go.Proofs.YtemfciflhbhobaaW.PrintWords Go.Proofs.YtemfciflhbhobaaW.PrintLast Go.Proofs.YtemfciflhbhobaaW.PrintMore
def toSD (d : D4) : SD := ⟨d.1, d.2.1, d.2.2.1, d.2.2.2⟩
/-- The peaks in runs of at most 2^(e-1) leaves each. -/
def peaksF : Nat → List ByteArray → List SD
  | 0, _ => []
  | e + 1, l => if 2 ^ e ≤ l.length then toSD (root (l.take (2 ^ e))) :: peaksF e (l.drop (2 ^ e)) else peaksF e l
def peaks (l : List ByteArray) : List SD := peaksF 9 l
theorem copiedD {l : List SD} (h : l.length ≤ 1000000) : impl_Digest.f l = some l := by
  unfold impl_Digest.f
  rw [if_pos (by omega)]
theorem peaksF_len (e : Nat) : ∀ l : List ByteArray, (peaksF e l).length ≤ e := by
  induction e with
  | zero => intro l; exact Nat.le_refl _
  | succ e ih =>
    intro l
    unfold peaksF
    split
    · exact Nat.succ_le_succ (ih _)
    · exact Nat.le_succ_of_le (ih _)
theorem peaksF_more (e : Nat) : ∀ (g : Nat) (l : List ByteArray), l.length < 2 ^ e → peaksF (e + g) l = peaksF e l := by
  intro g
  induction g with
  | zero => intro l _; rfl
  | succ g ih =>
    intro l h
    rw [show e + (g + 1) = (e + g) + 1 by omega]
    unfold peaksF
    have : (2 : Nat) ^ e ≤ 2 ^ (e + g) := Nat.pow_le_pow_right (by omega) (by omega)
    rw [if_neg (by omega), ih l h]
    cases e <;> rfl
theorem peaks_nil : peaks [] = [] := by
  exact peaksF_more 0 9 [] (by simp)
theorem peaks_cons {e : Nat} {l : List ByteArray} (he : e ≤ 8) (h0 : 2 ^ e ≤ l.length) (h1 : l.length < 2 ^ (e + 1)) : peaks l = toSD (root (l.take (2 ^ e))) :: peaks (l.drop (2 ^ e)) := by
  unfold peaks
  have e1 := peaksF_more (e + 1) (8 - e) l h1
  rw [show e + 1 + (8 - e) = 9 by omega] at e1
  have h2 : (l.drop (2 ^ e)).length < 2 ^ e := by rw [List.length_drop]; rw [Nat.pow_succ] at h1; omega
  have e2 := peaksF_more e (9 - e) (l.drop (2 ^ e)) h2
  rw [show e + (9 - e) = 9 by omega] at e2
  rw [e1, e2]
  show (if 2 ^ e ≤ l.length then _ else _) = _
  rw [if_pos h0]
theorem implPeaks_l (e : Nat) : ∀ (k : Nat) (l : List ByteArray) (acc : List SD), e ≤ 9 → l.length ≤ 256 → (∀ s ∈ l, s.size ≤ 4611686018427387904) → 31020 + e ≤ k → acc.length + e ≤ 1000000 →
    impl_TreePeaks.l0 k l acc (if e = 0 then 0 else ((2 ^ (e - 1) : Nat) : Int)) = some (acc ++ peaksF e l) := by
  induction e with
  | zero =>
    intro k l acc _ _ _ hk ha
    obtain ⟨k, rfl⟩ : ∃ m, k = m + 1 := ⟨k - 1, by omega⟩
    simp only [impl_TreePeaks.l0]
    rw [if_neg (by simp)]
    refine bs (copiedD (by omega)) ?_
    simp [peaksF]
  | succ e ih =>
    intro k l acc he hl hz hk ha
    obtain ⟨k, rfl⟩ : ∃ m, k = m + 1 := ⟨k - 1, by omega⟩
    have hp : 0 < 2 ^ e := Nat.pow_pos (by omega)
    have hp2 : 2 ^ e ≤ 2 ^ 8 := Nat.pow_le_pow_right (by omega) (by omega)
    have hd : wrap64 (Int.tdiv ((2 ^ e : Nat) : Int) 2) = if e = 0 then 0 else ((2 ^ (e - 1) : Nat) : Int) := by
      rw [Int.tdiv_eq_ediv_of_nonneg (by omega)]
      cases e with
      | zero => simp [wrap64]
      | succ e =>
        rw [if_neg (by omega), Nat.add_sub_cancel, Nat.pow_succ]
        rw [Nat.pow_succ] at hp2
        unfold wrap64
        omega
    rw [if_neg (by omega), Nat.add_sub_cancel]
    simp only [impl_TreePeaks.l0]
    rw [if_pos (by omega), hd]
    by_cases h : 2 ^ e ≤ l.length
    · rw [if_pos (by omega), if_pos (by omega), if_pos (by omega), Int.toNat_natCast]
      refine bs (impl_root (by omega) (by rw [List.length_take]; omega) (fun s hs => hz s (List.mem_of_mem_take hs))) ?_
      rw [if_pos (by omega), ih k _ _ (by omega) (by rw [List.length_drop]; omega) (fun s hs => hz s (List.mem_of_mem_drop hs)) (by omega) (by simp; omega)]
      refine congrArg some ?_
      rw [show peaksF (e + 1) l = toSD (root (l.take (2 ^ e))) :: peaksF e (l.drop (2 ^ e)) from by show (if 2 ^ e ≤ l.length then _ else _) = _; rw [if_pos h]]
      simp [toSD]
    · rw [if_neg (by omega), ih k l acc (by omega) hl hz (by omega) (by omega)]
      rw [show peaksF (e + 1) l = peaksF e l from by show (if 2 ^ e ≤ l.length then _ else _) = _; rw [if_neg h]]
theorem impl_peaks {k : Nat} (hk : 32000 < k) {l : List ByteArray} (h : leavesOk l = true) (h2 : l.length ≤ 256) (hz : ∀ s ∈ l, s.size ≤ 4611686018427387904) : impl_TreePeaks.f k l = some (peaks l) := by
  unfold impl_TreePeaks.f
  refine bs (impl_leaves l (by omega) (by omega)) ?_
  rw [if_pos h]
  have := implPeaks_l 9 k l [] (by omega) h2 hz (by omega) (by simp)
  rw [if_neg (by omega)] at this
  simpa [peaks] using this
/-- The greatest power of two that is at most n. -/
theorem half_l (g : Nat) : ∀ (k n j : Nat), g < k → 2 ^ j ≤ n → n < 2 ^ (j + g) → n ≤ 256 → ∃ e, spec_l2Half.l0 k (n : Int) ((2 ^ j : Nat) : Int) = some ((2 ^ e : Nat) : Int) ∧ 2 ^ e ≤ n ∧ n < 2 ^ (e + 1) := by
  induction g with
  | zero => intro k n j _ h0 h1; rw [Nat.add_zero] at h1; omega
  | succ g ih =>
    intro k n j hk h0 h1 h2
    obtain ⟨k, rfl⟩ : ∃ m, k = m + 1 := ⟨k - 1, by omega⟩
    simp only [spec_l2Half.l0]
    have e1 : wrap64 (2 * ((2 ^ j : Nat) : Int)) = ((2 ^ (j + 1) : Nat) : Int) := by rw [Nat.pow_succ]; unfold wrap64; omega
    rw [e1]
    by_cases c : 2 ^ (j + 1) ≤ n
    · rw [if_pos (by omega)]
      exact ih k n (j + 1) (by omega) c (by rw [show j + 1 + g = j + (g + 1) by omega]; exact h1) h2
    · rw [if_neg (by omega)]
      exact ⟨j, rfl, h0, by omega⟩
theorem spec_half {k n : Nat} (hk : 10 < k) (h0 : 1 ≤ n) (h1 : n ≤ 256) : ∃ e, spec_l2Half.f k (n : Int) = some ((2 ^ e : Nat) : Int) ∧ 2 ^ e ≤ n ∧ n < 2 ^ (e + 1) ∧ e ≤ 8 := by
  unfold spec_l2Half.f
  obtain ⟨e, h, h2, h3⟩ := half_l 9 k n 0 (by omega) (by simpa using h0) (by rw [Nat.zero_add, show (2 : Nat) ^ 9 = 512 by rfl]; omega) h1
  refine ⟨e, by simpa using h, h2, h3, ?_⟩
  rcases Nat.lt_or_ge 8 e with c | c
  · have : (2 : Nat) ^ 9 ≤ 2 ^ e := Nat.pow_le_pow_right (by omega) (by omega)
    rw [show (2 : Nat) ^ 9 = 512 by rfl] at this
    omega
  · exact c
theorem specPeaks_l (f : Nat) : ∀ (k : Nat) (l : List ByteArray) (acc : List SD) (at_ : Nat), l.length - at_ ≤ f → at_ ≤ l.length → l.length ≤ 256 → (∀ s ∈ l, s.size ≤ 4611686018427387904) → 31020 + f < k → acc.length + f ≤ 1000000 →
    spec_TreePeaks.l0 k l acc (at_ : Int) = some (acc ++ peaks (l.drop at_)) := by
  induction f with
  | zero =>
    intro k l acc at_ hf ha hl hz hk hc
    obtain ⟨k, rfl⟩ : ∃ m, k = m + 1 := ⟨k - 1, by omega⟩
    simp only [spec_TreePeaks.l0]
    rw [if_neg (by omega), List.drop_of_length_le (by omega), peaks_nil, List.append_nil]
  | succ f ih =>
    intro k l acc at_ hf ha hl hz hk hc
    obtain ⟨k, rfl⟩ : ∃ m, k = m + 1 := ⟨k - 1, by omega⟩
    simp only [spec_TreePeaks.l0]
    by_cases h : at_ < l.length
    · obtain ⟨e, h1, h2, h3, h4⟩ := spec_half (k := k) (n := l.length - at_) (by omega) (by omega) (by omega)
      have hp : 0 < 2 ^ e := Nat.pow_pos (by omega)
      rw [if_pos (by omega), show wrap64 ((l.length : Int) - (at_ : Int)) = ((l.length - at_ : Nat) : Int) by unfold wrap64; omega]
      refine bs h1 ?_
      have e1 : wrap64 ((at_ : Int) + ((2 ^ e : Nat) : Int)) = ((at_ + 2 ^ e : Nat) : Int) := by unfold wrap64; omega
      rw [e1, if_pos (by omega), if_pos (by omega), if_pos (by omega), Int.toNat_natCast, Int.toNat_natCast]
      refine bs (spec_root (by omega) (by simp; omega) (fun s hs => hz s (List.mem_of_mem_take (List.mem_of_mem_drop hs)))) ?_
      rw [if_pos (by omega), ih k l _ (at_ + 2 ^ e) (by omega) (by omega) hl hz (by omega) (by simp; omega)]
      refine congrArg some ?_
      rw [peaks_cons h4 (l := l.drop at_) (by rw [List.length_drop]; omega) (by rw [List.length_drop]; omega), List.drop_drop, List.append_assoc]
      refine congrArg (acc ++ ·) ?_
      rw [show (l.drop at_).take (2 ^ e) = (l.take (at_ + 2 ^ e)).drop at_ from by rw [List.drop_take, Nat.add_sub_cancel_left]]
      rfl
    · rw [if_neg (by omega), List.drop_of_length_le (by omega), peaks_nil, List.append_nil]
theorem spec_peaks {k : Nat} (hk : 32000 < k) {l : List ByteArray} (h : leavesOk l = true) (h2 : l.length ≤ 256) (hz : ∀ s ∈ l, s.size ≤ 4611686018427387904) : spec_TreePeaks.f k l = some (peaks l) := by
  unfold spec_TreePeaks.f
  simp only [Option.bind_some]
  refine bs (spec_leaves l (by omega) (by omega)) ?_
  rw [if_pos h]
  have := specPeaks_l 256 k l [] 0 (by omega) (by omega) h2 hz (by omega) (by simp)
  simpa using this
theorem peaks_len (l : List ByteArray) : (peaks l).length ≤ 9 := peaksF_len 9 l
theorem leaves_fit {l : List ByteArray} (c : leavesOk l = true) : l.length ≤ 256 ∧ ∀ s ∈ l, s.size ≤ 4611686018427387904 := by
  simp only [leavesOk, Bool.and_eq_true, decide_eq_true_eq, List.all_eq_true] at c
  exact ⟨c.1, fun s hs => Nat.le_trans (c.2 s hs) (by omega)⟩
/-- What TreePeaks tells. -/
def treePeaks (l : List ByteArray) : List SD := if leavesOk l = true then peaks l else []
theorem impl_treePeaks {k : Nat} (hk : 1099511627776 < k) {l : List ByteArray} (h : l.length < 1099511627776) : impl_TreePeaks.f k l = some (treePeaks l) := by
  unfold treePeaks
  by_cases c : leavesOk l = true
  · obtain ⟨h2, hz⟩ := leaves_fit c
    rw [if_pos c, impl_peaks (by omega) c h2 hz]
  · unfold impl_TreePeaks.f
    refine bs (impl_leaves l (by omega) h) ?_
    rw [if_neg c, if_neg c]
theorem spec_treePeaks {k : Nat} (hk : 1099511627776 < k) {l : List ByteArray} (h : l.length < 1099511627776) : spec_TreePeaks.f k l = some (treePeaks l) := by
  unfold treePeaks
  by_cases c : leavesOk l = true
  · obtain ⟨h2, hz⟩ := leaves_fit c
    rw [if_pos c, spec_peaks (by omega) c h2 hz]
  · unfold spec_TreePeaks.f
    simp only [Option.bind_some]
    refine bs (spec_leaves l (by omega) h) ?_
    rw [if_neg c, if_neg c]
theorem treePeaks_len (l : List ByteArray) : (treePeaks l).length ≤ 9 := by
  unfold treePeaks
  split
  · exact peaks_len l
  · simp
end Go.Proofs.Ytemfciflhbhobaa.Q
