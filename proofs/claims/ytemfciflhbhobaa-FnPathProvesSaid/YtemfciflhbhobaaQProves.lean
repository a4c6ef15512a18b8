/- The roots of the other halves on the way to a leaf lead up to the root of the tree. -/
import Derived.Test.YtemfciflhbhobaaQPath
import Derived.Test.YtemfciflhbhobaaQUp
import Derived.Test.YtemfciflhbhobaaQRootS
namespace Go.Proofs.Ytemfciflhbhobaa.Q
open Go.RowKit Go.Proofs.Ytemfciflhbhobaa.B Go.Proofs.YtemfciflhbhobaaW.PrintWords Go.Proofs.YtemfciflhbhobaaW.PrintLast Go.Proofs.YtemfciflhbhobaaW.PrintMore
set_option linter.unusedVariables false
set_option linter.unusedSimpArgs false
theorem d4u_toSD (d : D4) : d4u (toSD d) = d := rfl
theorem up_root (l : List ByteArray) (hl : l.length ≤ 256) (f : Nat) : ∀ (i lo hi : Nat) (hi2 : i < l.length), hi - lo ≤ f → lo ≤ i → i < hi → hi ≤ l.length →
    upL i (wayF f i lo hi).reverse ((wayF f i lo hi).reverse.map (sib l i)) (hashLeaf l[i]) = root ((l.take hi).drop lo) := by
  induction f with
  | zero => intro i lo hi hi2 h h0 h1; omega
  | succ f ih =>
    intro i lo hi hi2 h h0 h1 h2
    have hlen : ((l.take hi).drop lo).length = hi - lo := by rw [List.length_drop, List.length_take]; omega
    simp only [wayF]
    by_cases c : hi - lo ≤ 1
    · rw [if_pos c]
      obtain rfl : i = lo := by omega
      obtain rfl : hi = i + 1 := by omega
      have e : (l.take (i + 1)).drop i = [l[i]] := by
        rw [List.take_succ_eq_append_getElem hi2, List.drop_append_of_le_length (by rw [List.length_take]; omega), List.drop_of_length_le (by rw [List.length_take]; omega), List.nil_append]
      rw [e, root_one]
      rfl
    · rw [if_neg c]
      have hs := spl_lt (n := hi - lo) (by omega) (by omega)
      have em := mid_is lo hi
      have hr := root_split (l := (l.take hi).drop lo) (by omega) (by omega)
      rw [hlen, slice_take l lo hi _ (by omega), List.drop_drop] at hr
      rw [List.reverse_cons, List.map_append, List.map_cons, List.map_nil, upL_snoc _ _ _ _ _ _ (by rw [List.length_map])]
      by_cases c2 : i < lo + spl (hi - lo)
      · rw [if_pos c2, ih i lo (lo + spl (hi - lo)) hi2 (by omega) h0 c2 (by omega)]
        have e2 : sib l i ⟨(lo : Int), (hi : Int)⟩ = toSD (root ((l.take hi).drop (lo + spl (hi - lo)))) := by
          unfold sib
          rw [em, if_pos c2]
          rfl
        have eb : ∀ p now, both i ⟨(lo : Int), (hi : Int)⟩ p now = ⟨sdu now, p⟩ := fun p now => by
          unfold both
          rw [if_pos (by simpa using c2)]
        rw [e2, eb, hr]
        rfl
      · rw [if_neg c2, ih i (lo + spl (hi - lo)) hi hi2 (by omega) (by omega) h1 (by omega)]
        have e2 : sib l i ⟨(lo : Int), (hi : Int)⟩ = toSD (root ((l.take (lo + spl (hi - lo))).drop lo)) := by
          unfold sib
          rw [em, if_neg c2]
          rfl
        have eb : ∀ p now, both i ⟨(lo : Int), (hi : Int)⟩ p now = ⟨p, sdu now⟩ := fun p now => by
          unfold both
          rw [if_neg (by simpa using c2)]
        rw [e2, eb, hr]
        rfl
/-- PathRoot of PathOf is the root. -/
theorem path_proves {l : List ByteArray} (c : leavesOk l = true) (n : Nat) (hn : n < l.length) : pathRoot (l.length : Int) (n : Int) l[n] ((way l.length n).reverse.map (sib l n)) = (root l, true) := by
  obtain ⟨h2, hz⟩ := leaves_fit c
  have h40 : l[n].size ≤ 40 := by
    unfold leavesOk at c
    simp only [Bool.and_eq_true, decide_eq_true_eq, List.all_eq_true] at c
    exact c.2 _ (List.getElem_mem hn)
  have hf : pathFits (l.length : Int) (n : Int) l[n] ((way l.length n).reverse.map (sib l n)) = true := by
    unfold pathFits
    rw [Int.toNat_natCast, Int.toNat_natCast]
    exact decide_eq_true ⟨by omega, by omega, by omega, by omega, h40, by rw [List.length_map, List.length_reverse]⟩
  unfold pathRoot
  rw [if_pos hf, Int.toNat_natCast, Int.toNat_natCast]
  have := up_root l h2 l.length n 0 l.length hn (by omega) (by omega) hn (Nat.le_refl _)
  rw [List.take_of_length_le (Nat.le_refl _), List.drop_zero] at this
  exact Prod.ext this rfl
end Go.Proofs.Ytemfciflhbhobaa.Q
