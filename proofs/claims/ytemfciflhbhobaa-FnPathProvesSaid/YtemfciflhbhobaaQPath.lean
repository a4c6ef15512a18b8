/- A leaf's path as a plain list; PathOf of the program and of the reference come to it. No condition. -/
import Derived.Test.YtemfciflhbhobaaQRootS
import Derived.Test.YtemfciflhbhobaaQWay
import Derived.Test.YtemfciflhbhobaaFImplPathOf
import Derived.Test.YtemfciflhbhobaaFSpecPathOf
namespace Go.Proofs.Ytemfciflhbhobaa.Q
open Go.RowKit Go.Proofs.Ytemfciflhbhobaa.B Go.Proofs.YtemfciflhbhobaaW.PrintWords Go.Proofs.YtemfciflhbhobaaW.PrintLast Go.Proofs.YtemfciflhbhobaaW.PrintMore
set_option linter.unusedVariables false
set_option linter.unusedSimpArgs false
theorem rdN_nat' {l : List NO} {i : Nat} (h : i < l.length) : rd_T120 l (i : Int) = l[i] := by simp [rd_T120, List.getD, List.getElem?_eq_getElem h]
/-- Where a node's halves meet. -/
def mid (x : NO) : Nat := x.f0.toNat + spl (x.f1.toNat - x.f0.toNat)
/-- The root of the half of a node that has not the leaf i. -/
def sib (l : List ByteArray) (i : Nat) (x : NO) : SD :=
  if i < mid x then toSD (root ((l.take x.f1.toNat).drop (mid x))) else toSD (root ((l.take (mid x)).drop x.f0.toNat))
theorem way_fit (f : Nat) : ∀ (i lo hi : Nat), hi - lo ≤ f → lo ≤ hi → hi ≤ 256 → ∀ x ∈ wayF f i lo hi, ∃ a b : Nat, x = ⟨(a : Int), (b : Int)⟩ ∧ lo ≤ a ∧ a + 2 ≤ b ∧ b ≤ hi := by
  induction f with
  | zero => intro i lo hi _ _ _ x hx; simp [wayF] at hx
  | succ f ih =>
    intro i lo hi h h0 h1 x hx
    simp only [wayF] at hx
    by_cases c : hi - lo ≤ 1
    · rw [if_pos c] at hx; simp at hx
    · rw [if_neg c] at hx
      have hs := spl_lt (n := hi - lo) (by omega) (by omega)
      rcases List.mem_cons.1 hx with rfl | hx
      · exact ⟨lo, hi, rfl, by omega, by omega, by omega⟩
      · by_cases c2 : i < lo + spl (hi - lo)
        · rw [if_pos c2] at hx
          obtain ⟨a, b, e, h3, h4, h5⟩ := ih _ _ _ (by omega) (by omega) (by omega) x hx
          exact ⟨a, b, e, h3, h4, by omega⟩
        · rw [if_neg c2] at hx
          obtain ⟨a, b, e, h3, h4, h5⟩ := ih _ _ _ (by omega) (by omega) (by omega) x hx
          exact ⟨a, b, e, by omega, h4, h5⟩
theorem mid_is (a b : Nat) : mid ⟨(a : Int), (b : Int)⟩ = a + spl (b - a) := by simp [mid]
theorem implPath_l (l : List ByteArray) (i : Nat) (hl : l.length ≤ 256) (hz : ∀ s ∈ l, s.size ≤ 4611686018427387904) (xs : List NO) (hx : ∀ x ∈ xs, ∃ a b : Nat, x = ⟨(a : Int), (b : Int)⟩ ∧ a + 2 ≤ b ∧ b ≤ l.length) (hn : xs.length ≤ 1000) (j : Nat) : ∀ (k : Nat) (acc : List SD), j ≤ xs.length → 40000 + j < k → acc.length + j ≤ 2000 →
    impl_PathOf.l0 k l (i : Int) xs acc ((j : Int) - 1) = some (acc ++ (xs.take j).reverse.map (sib l i), true) := by
  induction j with
  | zero =>
    intro k acc _ hk ha
    obtain ⟨k, rfl⟩ : ∃ m, k = m + 1 := ⟨k - 1, by omega⟩
    simp only [impl_PathOf.l0]
    rw [if_neg (by omega)]
    refine bs (copiedD (by omega)) ?_
    simp
  | succ j ih =>
    intro k acc hj hk ha
    obtain ⟨k, rfl⟩ : ∃ m, k = m + 1 := ⟨k - 1, by omega⟩
    have hi : j < xs.length := by omega
    obtain ⟨a, b, e, h2, h3⟩ := hx _ (List.getElem_mem hi)
    simp only [impl_PathOf.l0]
    rw [show ((j + 1 : Nat) : Int) - 1 = (j : Int) by omega, if_pos (by omega), if_pos (by omega), if_pos (by omega), rdN_nat' hi]
    rw [List.take_succ_eq_append_getElem hi, List.reverse_append, List.reverse_singleton, List.singleton_append, List.map_cons]
    have hih := fun k acc => ih k acc (by omega)
    generalize xs[j] = x at e ⊢
    subst e
    have hs := spl_lt (n := b - a) (by omega) (by omega)
    refine bs (halves (by omega) h2 (by omega)) ?_
    have em := mid_is a b
    show (if (i : Int) < ((a + spl (b - a) : Nat) : Int) then _ else _) = _
    have hw : wrap64 ((j : Int) - 1) = (j : Int) - 1 := by unfold wrap64; omega
    by_cases c : i < a + spl (b - a)
    · rw [if_pos (by omega)]
      show (if 0 ≤ ((a + spl (b - a) : Nat) : Int) then (if ((a + spl (b - a) : Nat) : Int) ≤ (b : Int) then (if (b : Int) ≤ (l.length : Int) then _ else _) else _) else _) = _
      rw [if_pos (by omega), if_pos (by omega), if_pos (by omega)]
      refine bs (v := root ((l.take b).drop (a + spl (b - a)))) (impl_root (by omega) (by simp; omega) (fun s hs => hz s (List.mem_of_mem_take (List.mem_of_mem_drop hs)))) ?_
      rw [if_pos (by omega), hw, hih k _ (by omega) (by simp; omega)]
      refine congrArg some (Prod.ext ?_ rfl)
      have e2 : sib l i ⟨(a : Int), (b : Int)⟩ = toSD (root ((l.take b).drop (a + spl (b - a)))) := by
        unfold sib
        rw [em, if_pos c]
        rfl
      rw [e2, List.append_assoc]
      rfl
    · rw [if_neg (by omega)]
      show (if 0 ≤ (a : Int) then (if (a : Int) ≤ ((a + spl (b - a) : Nat) : Int) then (if ((a + spl (b - a) : Nat) : Int) ≤ (l.length : Int) then _ else _) else _) else _) = _
      rw [if_pos (by omega), if_pos (by omega), if_pos (by omega)]
      refine bs (v := root ((l.take (a + spl (b - a))).drop a)) (impl_root (by omega) (by simp; omega) (fun s hs => hz s (List.mem_of_mem_take (List.mem_of_mem_drop hs)))) ?_
      rw [if_pos (by omega), hw, hih k _ (by omega) (by simp; omega)]
      refine congrArg some (Prod.ext ?_ rfl)
      have e2 : sib l i ⟨(a : Int), (b : Int)⟩ = toSD (root ((l.take (a + spl (b - a))).drop a)) := by
        unfold sib
        rw [em, if_neg c]
        rfl
      rw [e2, List.append_assoc]
      rfl
theorem slice_take (l : List ByteArray) (a b c : Nat) (h : a + c ≤ b) : ((l.take b).drop a).take c = (l.take (a + c)).drop a := by
  rw [List.take_drop, List.take_take, Nat.min_eq_left (by omega)]
theorem specPath_l (l : List ByteArray) (hl : l.length ≤ 256) (hz : ∀ s ∈ l, s.size ≤ 4611686018427387904) (f : Nat) : ∀ (k i lo hi : Nat), f ≤ 100000 → hi - lo ≤ f → lo ≤ i → i < hi → hi ≤ l.length → 40000 + f < k →
    spec_l3Path.f k ((l.take hi).drop lo) ((i - lo : Nat) : Int) = some ((wayF f i lo hi).reverse.map (sib l i)) := by
  induction f with
  | zero => intro k i lo hi hf h h0 h1; omega
  | succ f ih =>
    intro k i lo hi hf h h0 h1 h2 hk
    obtain ⟨k, rfl⟩ : ∃ m, k = m + 1 := ⟨k - 1, by omega⟩
    have hlen : ((l.take hi).drop lo).length = hi - lo := by rw [List.length_drop, List.length_take]; omega
    simp only [spec_l3Path.f, wayF]
    rw [hlen]
    by_cases c : hi - lo ≤ 1
    · rw [if_pos (by omega), if_pos c]
      rfl
    · rw [if_neg (by omega), if_neg c]
      have hs := spl_lt (n := hi - lo) (by omega) (by omega)
      have em := mid_is lo hi
      refine bs (spec_split (by omega) (by omega) (by omega)) ?_
      rw [List.reverse_cons, List.map_append]
      by_cases c2 : i < lo + spl (hi - lo)
      · rw [if_pos (by omega), if_pos (by omega), if_pos (by omega), if_pos c2, Int.toNat_natCast]
        rw [slice_take l lo hi _ (by omega)]
        refine bs (ih k i lo (lo + spl (hi - lo)) (by omega) (by omega) h0 c2 (by omega) (by omega)) ?_
        refine bs (v := root ((l.take hi).drop (lo + spl (hi - lo)))) ?_ ?_
        · rw [List.drop_drop]
          exact spec_root (by omega) (by simp; omega) (fun s hs => hz s (List.mem_of_mem_take (List.mem_of_mem_drop hs)))
        · have hw := wayF_len f i lo (lo + spl (hi - lo)) (by omega)
          rw [if_pos (by simp; omega)]
          refine congrArg some ?_
          have e2 : sib l i ⟨(lo : Int), (hi : Int)⟩ = toSD (root ((l.take hi).drop (lo + spl (hi - lo)))) := by
            unfold sib
            rw [em, if_pos c2]
            rfl
          rw [List.map_cons, List.map_nil, e2]
          rfl
      · rw [if_neg (by omega), if_pos (by omega), if_pos (by omega), if_neg c2, Int.toNat_natCast]
        rw [List.drop_drop, show wrap64 (((i - lo : Nat) : Int) - ((spl (hi - lo) : Nat) : Int)) = ((i - (lo + spl (hi - lo)) : Nat) : Int) by unfold wrap64; omega]
        refine bs (ih k i (lo + spl (hi - lo)) hi (by omega) (by omega) (by omega) h1 (by omega) (by omega)) ?_
        refine bs (v := root ((l.take (lo + spl (hi - lo))).drop lo)) ?_ ?_
        · rw [slice_take l lo hi _ (by omega)]
          exact spec_root (by omega) (by simp; omega) (fun s hs => hz s (List.mem_of_mem_take (List.mem_of_mem_drop hs)))
        · have hw := wayF_len f i (lo + spl (hi - lo)) hi (by omega)
          rw [if_pos (by simp; omega)]
          refine congrArg some ?_
          have e2 : sib l i ⟨(lo : Int), (hi : Int)⟩ = toSD (root ((l.take (lo + spl (hi - lo))).drop lo)) := by
            unfold sib
            rw [em, if_neg c2]
            rfl
          rw [List.map_cons, List.map_nil, e2]
          rfl
/-- What PathOf tells. -/
def pathOf (l : List ByteArray) (i : Int) : List SD × Bool :=
  if leavesOk l = true ∧ 0 ≤ i ∧ i < (l.length : Int) then ((way l.length i.toNat).reverse.map (sib l i.toNat), true) else ([], false)
theorem impl_pathOf {k : Nat} (hk : 1099511627776 < k) {l : List ByteArray} (h : l.length < 1099511627776) (i : Int) (hi0 : -9223372036854775808 ≤ i) : impl_PathOf.f (k + 1) l i = some (pathOf l i) := by
  unfold impl_PathOf.f pathOf
  refine bs (impl_leaves l (by omega) h) ?_
  by_cases c : leavesOk l = true
  · obtain ⟨h2, hz⟩ := leaves_fit c
    rw [if_pos c, impl_in]
    simp only [Option.bind_some]
    rw [show wrap64 ((l.length : Int) - 1) = (l.length : Int) - 1 by unfold wrap64; omega]
    by_cases c2 : 0 ≤ i ∧ i < (l.length : Int)
    · rw [if_pos ⟨c, c2⟩, show decide (0 ≤ i ∧ i ≤ (l.length : Int) - 1) = true by simp; omega]
      obtain ⟨n, rfl⟩ : ∃ n : Nat, i = (n : Int) := ⟨i.toNat, by omega⟩
      simp only [Bool.not_true, impl_PathOf.j0, Bool.false_eq_true, if_false]
      refine bs (impl_way (by omega) h2) ?_
      have hw := wayF_len l.length n 0 l.length (by omega)
      have hw2 : (way l.length n).length ≤ l.length := hw
      have := implPath_l l n h2 hz (way l.length n) (fun x hx => by
        obtain ⟨a, b, e, _, h3, h4⟩ := way_fit l.length n 0 l.length (by omega) (by omega) (by omega) x hx
        exact ⟨a, b, e, h3, h4⟩) (by omega) (way l.length n).length k [] (by omega) (by omega) (by simp; omega)
      rw [show wrap64 (((way l.length n).length : Int) - 1) = ((way l.length n).length : Int) - 1 by unfold wrap64; omega, this, List.take_of_length_le (Nat.le_refl _), Int.toNat_natCast]
      rfl
    · rw [if_neg (by intro hh; exact c2 hh.2), show decide (0 ≤ i ∧ i ≤ (l.length : Int) - 1) = false by simp; omega]
      simp [impl_PathOf.j0]
  · rw [if_neg c, if_neg (by intro hh; exact c hh.1)]
    simp [impl_PathOf.j0]
theorem spec_pathOf {k : Nat} (hk : 1099511627776 < k) {l : List ByteArray} (h : l.length < 1099511627776) (i : Int) : spec_PathOf.f k l i = some (pathOf l i) := by
  unfold spec_PathOf.f pathOf
  refine bs (spec_leaves l (by omega) h) ?_
  by_cases c : leavesOk l = true
  · obtain ⟨h2, hz⟩ := leaves_fit c
    rw [if_pos c]
    unfold spec_l3Place.f
    rw [spec_in]
    simp only [Option.bind_some]
    by_cases c0 : 1 ≤ (l.length : Int)
    · rw [if_pos (by simp; omega), spec_in]
      simp only [Option.bind_some]
      rw [show wrap64 ((l.length : Int) - 1) = (l.length : Int) - 1 by unfold wrap64; omega]
      by_cases c2 : 0 ≤ i ∧ i < (l.length : Int)
      · rw [if_pos (by simp; omega), if_pos ⟨c, c2⟩]
        obtain ⟨n, rfl⟩ : ∃ n : Nat, i = (n : Int) := ⟨i.toNat, by omega⟩
        have := specPath_l l h2 hz l.length k n 0 l.length (by omega) (by omega) (by omega) (by omega) (by omega) (by omega)
        rw [List.take_of_length_le (Nat.le_refl _), List.drop_zero] at this
        refine bs this ?_
        rw [Int.toNat_natCast]
        rfl
      · rw [if_neg (by simp; omega), if_neg (by intro hh; exact c2 hh.2)]
    · rw [if_neg (by simp; omega), if_neg (by intro hh; omega)]
      simp
  · rw [if_neg c, if_neg (by intro hh; exact c hh.1)]
theorem impl_pathOf' {k : Nat} (hk : 1099511627780 < k) {l : List ByteArray} (h : l.length < 1099511627776) (i : Int) (hi0 : -9223372036854775808 ≤ i) : impl_PathOf.f k l i = some (pathOf l i) := by
  obtain ⟨k, rfl⟩ : ∃ q, k = q + 1 := ⟨k - 1, by omega⟩
  exact impl_pathOf (by omega) h i hi0
theorem pathOf_len {l : List ByteArray} (i : Int) : (pathOf l i).1.length ≤ 256 := by
  unfold pathOf
  by_cases c : leavesOk l = true ∧ 0 ≤ i ∧ i < (l.length : Int)
  · rw [if_pos c]
    obtain ⟨h2, _⟩ := leaves_fit c.1
    have hw := wayF_len l.length i.toNat 0 l.length (by omega)
    simp only [List.length_map, List.length_reverse]
    exact Nat.le_trans hw h2
  · rw [if_neg c]; simp
end Go.Proofs.Ytemfciflhbhobaa.Q
