/- PeaksAdd leaf by leaf gives the peaks and the root of the drawn leaves: the plain law behind FnPeaksAdded. No condition. -/
import Derived.Test.YtemfciflhbhobaaFLawsFnPeaksAdded
import Derived.Test.YtemfciflhbhobaaOpenK
import Derived.Test.YtemfciflhbhobaaQAdded
import Derived.Test.YtemfciflhbhobaaQSome
namespace Go.Proofs.Ytemfciflhbhobaa.Pure
open Go.RowKit Go.Proofs.Ytemfciflhbhobaa.B Go.Proofs.Ytemfciflhbhobaa.Q Go.Proofs.YtemfciflhbhobaaW.PrintWords Go.Proofs.YtemfciflhbhobaaW.PrintLast
set_option linter.unusedVariables false
set_option linter.unusedSimpArgs false
theorem same_l (n : Nat) : ∀ (k : Nat) (P : List SD) (i : Nat), P.length = i + n → n < k → P.length ≤ 1000 → laws_sameDigests.l0 k P P (i : Int) = some true := by
  induction n with
  | zero =>
    intro k P i hl hk hm
    obtain ⟨k, rfl⟩ : ∃ q, k = q + 1 := ⟨k - 1, by omega⟩
    simp only [laws_sameDigests.l0]
    rw [if_neg (by omega)]
  | succ n ih =>
    intro k P i hl hk hm
    obtain ⟨k, rfl⟩ : ∃ q, k = q + 1 := ⟨k - 1, by omega⟩
    simp only [laws_sameDigests.l0]
    rw [if_pos (by omega), if_pos (by omega), if_pos (by omega), if_neg (by simp), step64 (by omega)]
    exact ih k P (i + 1) (by omega) (by omega) hm
theorem same_is {k : Nat} (P : List SD) (hk : P.length < k) (hm : P.length ≤ 1000) : laws_sameDigests.f k P P = some true := by
  unfold laws_sameDigests.f
  rw [if_pos rfl]
  have := same_l P.length k P 0 (by omega) hk hm
  simpa using this
theorem ok_take {l : List ByteArray} (c : leavesOk l = true) (n : Nat) : leavesOk (l.take n) = true := by
  unfold leavesOk at c ⊢
  simp only [Bool.and_eq_true, decide_eq_true_eq, List.all_eq_true] at c ⊢
  exact ⟨by rw [List.length_take]; omega, fun s hs => c.2 s (List.mem_of_mem_take hs)⟩
theorem ok_size {l : List ByteArray} (c : leavesOk l = true) (s : ByteArray) (hs : s ∈ l) : s.size ≤ 40 := by
  unfold leavesOk at c
  simp only [Bool.and_eq_true, decide_eq_true_eq, List.all_eq_true] at c
  exact c.2 s hs
theorem treeRoot_spec2 {k : Nat} (hk : 40000 < k) {l : List ByteArray} (c : leavesOk l = true) : spec_TreeRoot.f k l = some (root l) := by
  obtain ⟨h2, hz⟩ := leaves_fit c
  unfold spec_TreeRoot.f
  refine bs (spec_leaves l (by omega) (by omega)) ?_
  rw [if_pos c]
  exact bs (spec_root (by omega) h2 hz) rfl
theorem added_l (l : List ByteArray) (c : leavesOk l = true) (hl : l.length ≤ 40) (n : Nat) : ∀ (k i : Nat), l.length = i + n → 70000 + n < k → laws_FnPeaksAdded.l0 k l (peaks (l.take i)) (i : Int) = some true := by
  obtain ⟨h2, hz⟩ := leaves_fit c
  induction n with
  | zero =>
    intro k i h hk
    obtain ⟨k, rfl⟩ : ∃ q, k = q + 1 := ⟨k - 1, by omega⟩
    simp only [laws_FnPeaksAdded.l0]
    rw [if_neg (by omega)]
  | succ n ih =>
    intro k i h hk
    obtain ⟨k, rfl⟩ : ∃ q, k = q + 1 := ⟨k - 1, by omega⟩
    have hi : i < l.length := by omega
    simp only [laws_FnPeaksAdded.l0]
    rw [if_pos (by omega), if_pos (by omega), rdOf_nat hi]
    have hli : (l.take i).length = i := by rw [List.length_take]; omega
    have hp := peaks_count i (l.take i) (by omega) (by omega)
    rw [hli] at hp
    have hf : addFits (i : Int) (peaks (l.take i)) l[i] = true := by
      unfold addFits
      have := ok_size c l[i] (List.getElem_mem hi)
      rw [Int.toNat_natCast]
      exact decide_eq_true ⟨by omega, by omega, hp, this⟩
    have e1 : peaksAdd (i : Int) (peaks (l.take i)) l[i] = (peaks (l.take (i + 1)), true) := by
      unfold peaksAdd
      rw [if_pos hf, Int.toNat_natCast]
      have := add_peaks (l.take i) l[i] (by omega)
      rw [hli] at this
      rw [this, List.take_succ_eq_append_getElem hi]
    have hc := ok_take c (i + 1)
    obtain ⟨hc2, hcz⟩ := leaves_fit hc
    have hpl := peaks_len (l.take (i + 1))
    obtain ⟨k, rfl⟩ : ∃ q, k = q + 1 := ⟨k - 1, by omega⟩
    refine bs (impl_peaksAdd (by omega) (i : Int) (peaks (l.take i)) l[i] (by have := peaks_len (l.take i); omega)) ?_
    rw [e1]
    dsimp only
    rw [if_pos rfl, step64 (by omega), if_pos (by omega), if_pos (by omega), Int.toNat_natCast]
    refine bs (spec_peaks (by omega) hc hc2 hcz) (bs (same_is _ (by omega) (by omega)) ?_)
    rw [if_pos rfl]
    refine bs (v := root (l.take (i + 1))) ?_ ?_
    · rw [impl_proot (by omega) _ (by omega), peaksRoot_peaks hc2]
    · refine bs (treeRoot_spec2 (by omega) hc) ?_
      rw [if_neg (by simp)]
      exact ih (k + 1) (i + 1) (by omega) (by omega)
theorem peaksAdded_at (k : Nat) (hk : 1099511627776 < k) (c : List Int) (hc : Bytes8 c) : laws_FnPeaksAdded.f (k + 1) c = some true := by
  unfold laws_FnPeaksAdded.f
  by_cases h0 : (c.length : Int) > 1048576
  · rw [if_pos h0]
  · rw [if_neg h0]
    obtain ⟨b, e1, hr⟩ := open_ok c hc
    obtain ⟨l, q, e2, hl, hs, _, _⟩ := some_ok (k := k + 1) (by omega) hr (by omega)
    have e3 : spec_DrawTreePeaks.f (k + 1) c = some l := by
      unfold spec_DrawTreePeaks.f spec_l2Open.f
      exact bs e1 (bs e2 rfl)
    refine bs e3 (bs (spec_leaves l (by omega) (by omega)) ?_)
    by_cases cl : leavesOk l = true
    · rw [if_pos cl]
      simp only [laws_FnPeaksAdded.j0]
      by_cases c4 : (l.length : Int) > 40
      · rw [if_pos (by simpa using c4)]
      · rw [if_neg (by simpa using c4)]
        have := added_l l cl (by omega) l.length k 0 (by omega) (by omega)
        rw [List.take_zero, peaks_nil] at this
        exact this
    · rw [if_neg cl]
      simp only [laws_FnPeaksAdded.j0]
      rw [if_pos trivial]
theorem FnPeaksAdded (y0 : List Int) (h : y0.length ≤ 9223372036854775807 ∧ ∀ y_ ∈ y0, (Lit.int .u8 y_).wf = true) : ∃ k, laws_FnPeaksAdded.f k y0 = some true := ⟨1099511627777 + 1, peaksAdded_at _ (by omega) y0 fun x hx => by
    have := h.2 x hx
    simp [Lit.wf, IntKind.min, IntKind.max, IntKind.signed, IntKind.bits] at this
    omega⟩
end Go.Proofs.Ytemfciflhbhobaa.Pure
